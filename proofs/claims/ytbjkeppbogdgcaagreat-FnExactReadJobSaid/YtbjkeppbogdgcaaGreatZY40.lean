/- What the functions of the program, of the reference and of the law do (a part of it). -/
import Derived.Test.YtbjkeppbogdgcaaGreatZY35
namespace Go.Vsi
open Go.Proofs
noncomputable section
set_option maxRecDepth 100000
set_option maxHeartbeats 4000000
set_option linter.unusedSimpArgs false
set_option linter.unusedVariables false
attribute [local go_sem ↓] v6
theorem c4m(s u w:List UInt8)(t1 t2 t3 t4:Int)(b1 b2 b3 b4 p k1 k2 q:Bool)(x0 x y:Int)(o:List UInt8)(M1 M2 M3 M4 M5 M6:Nat)(Q1 Q2 Q3 Q4 Q5 Q6:List (List D))(g1:kR 15 s [] 0 false (ws u) t1 b1)(g2:kR 15 s [] t1 b1 (ws w) t2 b2)(r1:c6 Tryz.prog T1 L1 14 [.c (.d (.v (.string (B (u)))))] []=some (.tup [.agg [nl,.arr 0 0 M2,.d (.v (.int .i64 (x0))),.d (.v (.int .i64 (x))),.d (.v (.int .i64 (y)))],.c (.d (.v (.bool (k1))))],[some (.arr 2 Q2)]))(r2:c6 Tryz.prog T1 L1 16 [.c (.d (.v (.string (B (w)))))] []=some (.tup [.agg [nl,nl,.d (.v (.string (B (o))))],.c (.d (.v (.bool (k2))))],[]))(l1:c6 Tryz.prog T1 L1 17 [.c (.ptr 0 0 0),.c (.d (.v (.int .i64 (20))))] [rd s t2 b2]=some (.one (.c (.arr 1 0 M5)),[rd s t3 b3,some (.arr 1 Q5)]))(l2:c6 Tryz.prog T1 L1 17 [.c (.ptr 0 0 0),.c (.d (.v (.int .i64 (20))))] [rd s t3 b3]=some (.one (.c (.arr 1 0 M6)),[rd s t4 b4,some (.arr 1 Q6)]))(g5:kR 18 s [] t4 b4 (wb p) t4 b4)(e1:Q1.take M1=Q1)(e2:Q2.take M2=Q2)(e3:Q3.take M3=Q3)(e4:Q4.take M4=Q4)(e5:Q5.take M5=Q5)(e6:Q6.take M6=Q6)(g6:p=true->k1=true->k2=true->c6 Tryz.prog T1 L1 19 [.agg [nl,.d (.sl 2 Q2),.d (.v (.int .i64 (x0))),.d (.v (.int .i64 (x))),.d (.v (.int .i64 (y))),nl,nl,.d (.v (.string (B (o)))),.d (.sl 1 Q5),.d (.sl 1 Q6)]] []=some (wb q,[])):c6 Tryz.prog T1 L1 5 [.c (.d (.v (.string (B (s)))))] []=some (if(p&&(k1&&(k2&&q)))=true then(.tup [.agg [nl,.arr 0 0 M2,.d (.v (.int .i64 (x0))),.d (.v (.int .i64 (x))),.d (.v (.int .i64 (y))),nl,nl,.d (.v (.string (B (o)))),.arr 1 0 M5,.arr 2 0 M6],.c (.d (.v (.bool (true))))],[some (.arr 2 Q2),some (.arr 1 Q5),some (.arr 1 Q6)])else(.tup [.agg [nl,nl,zi,zi,zi,nl,nl,es,nl,nl],.c (.d (.v (.bool (false))))],[])):=by
 have hroom:room=70368744177664:=rfl
 cases p with
 |false=>
  clear g6
  simp only[Bool.true_and,Bool.false_and,Bool.and_true,Bool.and_false,Bool.not_true,Bool.not_false,if_true,if_false,Bool.false_eq_true,decide_true]
  exact fn V5 Tryz.func5
 |true=>
  cases k1 with
  |false=>
   clear g6
   simp only[Bool.true_and,Bool.false_and,Bool.and_true,Bool.and_false,Bool.not_true,Bool.not_false,if_true,if_false,Bool.false_eq_true,decide_true]
   exact fn V5 Tryz.func5
  |true=>
   cases k2 with
   |false=>
    clear g6
    simp only[Bool.true_and,Bool.false_and,Bool.and_true,Bool.and_false,Bool.not_true,Bool.not_false,if_true,if_false,Bool.false_eq_true,decide_true]
    exact fn V5 Tryz.func5
   |true=>
    replace g6:=g6 rfl rfl rfl
    cases q
    all_goals
     simp only[Bool.true_and,Bool.false_and,Bool.and_true,Bool.and_false,Bool.not_true,Bool.not_false,if_true,if_false,Bool.false_eq_true,decide_true]
     exact fn V5 Tryz.func5
theorem e0c(s u w:List UInt8)(t1 t2 t3 t4:Int)(b1 b2 b3 b4 p k1 k2 q:Bool)(x0 x y:Int)(o:List UInt8)(M1 M2 M3 M4 M5 M6:Nat)(Q1 Q2 Q3 Q4 Q5 Q6:List (List D))(g1:kR 15 s [] 0 false (ws u) t1 b1)(g2:kR 15 s [] t1 b1 (ws w) t2 b2)(r1:c6 Tryz.prog T1 L1 14 [.c (.d (.v (.string (B (u)))))] []=some (.tup [.agg [nl,.arr 0 0 M2,.d (.v (.int .i64 (x0))),.d (.v (.int .i64 (x))),.d (.v (.int .i64 (y)))],.c (.d (.v (.bool (k1))))],[some (.arr 2 Q2)]))(r2:c6 Tryz.prog T1 L1 16 [.c (.d (.v (.string (B (w)))))] []=some (.tup [.agg [nl,.arr 0 0 M4,.d (.v (.string (B (o))))],.c (.d (.v (.bool (k2))))],[some (.arr 3 Q4)]))(l1:c6 Tryz.prog T1 L1 17 [.c (.ptr 0 0 0),.c (.d (.v (.int .i64 (20))))] [rd s t2 b2]=some (.one (.c (.arr 1 0 M5)),[rd s t3 b3,some (.arr 1 Q5)]))(l2:c6 Tryz.prog T1 L1 17 [.c (.ptr 0 0 0),.c (.d (.v (.int .i64 (20))))] [rd s t3 b3]=some (.one (.c (.arr 1 0 M6)),[rd s t4 b4,some (.arr 1 Q6)]))(g5:kR 18 s [] t4 b4 (wb p) t4 b4)(e1:Q1.take M1=Q1)(e2:Q2.take M2=Q2)(e3:Q3.take M3=Q3)(e4:Q4.take M4=Q4)(e5:Q5.take M5=Q5)(e6:Q6.take M6=Q6)(g6:p=true->k1=true->k2=true->c6 Tryz.prog T1 L1 19 [.agg [nl,.d (.sl 2 Q2),.d (.v (.int .i64 (x0))),.d (.v (.int .i64 (x))),.d (.v (.int .i64 (y))),nl,.d (.sl 3 Q4),.d (.v (.string (B (o)))),.d (.sl 1 Q5),.d (.sl 1 Q6)]] []=some (wb q,[])):c6 Tryz.prog T1 L1 5 [.c (.d (.v (.string (B (s)))))] []=some (if(p&&(k1&&(k2&&q)))=true then(.tup [.agg [nl,.arr 0 0 M2,.d (.v (.int .i64 (x0))),.d (.v (.int .i64 (x))),.d (.v (.int .i64 (y))),nl,.arr 1 0 M4,.d (.v (.string (B (o)))),.arr 2 0 M5,.arr 3 0 M6],.c (.d (.v (.bool (true))))],[some (.arr 2 Q2),some (.arr 3 Q4),some (.arr 1 Q5),some (.arr 1 Q6)])else(.tup [.agg [nl,nl,zi,zi,zi,nl,nl,es,nl,nl],.c (.d (.v (.bool (false))))],[])):=by
 have hroom:room=70368744177664:=rfl
 cases p with
 |false=>
  clear g6
  simp only[Bool.true_and,Bool.false_and,Bool.and_true,Bool.and_false,Bool.not_true,Bool.not_false,if_true,if_false,Bool.false_eq_true,decide_true]
  exact fn V5 Tryz.func5
 |true=>
  cases k1 with
  |false=>
   clear g6
   simp only[Bool.true_and,Bool.false_and,Bool.and_true,Bool.and_false,Bool.not_true,Bool.not_false,if_true,if_false,Bool.false_eq_true,decide_true]
   exact fn V5 Tryz.func5
  |true=>
   cases k2 with
   |false=>
    clear g6
    simp only[Bool.true_and,Bool.false_and,Bool.and_true,Bool.and_false,Bool.not_true,Bool.not_false,if_true,if_false,Bool.false_eq_true,decide_true]
    exact fn V5 Tryz.func5
   |true=>
    replace g6:=g6 rfl rfl rfl
    cases q
    all_goals
     simp only[Bool.true_and,Bool.false_and,Bool.and_true,Bool.and_false,Bool.not_true,Bool.not_false,if_true,if_false,Bool.false_eq_true,decide_true]
     exact fn V5 Tryz.func5
theorem e0d(s u w:List UInt8)(t1 t2 t3 t4:Int)(b1 b2 b3 b4 p k1 k2 q:Bool)(x0 x y:Int)(o:List UInt8)(M1 M2 M3 M4 M5 M6:Nat)(Q1 Q2 Q3 Q4 Q5 Q6:List (List D))(g1:kR 15 s [] 0 false (ws u) t1 b1)(g2:kR 15 s [] t1 b1 (ws w) t2 b2)(r1:c6 Tryz.prog T1 L1 14 [.c (.d (.v (.string (B (u)))))] []=some (.tup [.agg [nl,.arr 0 0 M2,.d (.v (.int .i64 (x0))),.d (.v (.int .i64 (x))),.d (.v (.int .i64 (y)))],.c (.d (.v (.bool (k1))))],[some (.arr 2 Q2)]))(r2:c6 Tryz.prog T1 L1 16 [.c (.d (.v (.string (B (w)))))] []=some (.tup [.agg [.arr 0 0 M3,nl,.d (.v (.string (B (o))))],.c (.d (.v (.bool (k2))))],[some (.arr 2 Q3)]))(l1:c6 Tryz.prog T1 L1 17 [.c (.ptr 0 0 0),.c (.d (.v (.int .i64 (20))))] [rd s t2 b2]=some (.one (.c (.arr 1 0 M5)),[rd s t3 b3,some (.arr 1 Q5)]))(l2:c6 Tryz.prog T1 L1 17 [.c (.ptr 0 0 0),.c (.d (.v (.int .i64 (20))))] [rd s t3 b3]=some (.one (.c (.arr 1 0 M6)),[rd s t4 b4,some (.arr 1 Q6)]))(g5:kR 18 s [] t4 b4 (wb p) t4 b4)(e1:Q1.take M1=Q1)(e2:Q2.take M2=Q2)(e3:Q3.take M3=Q3)(e4:Q4.take M4=Q4)(e5:Q5.take M5=Q5)(e6:Q6.take M6=Q6)(g6:p=true->k1=true->k2=true->c6 Tryz.prog T1 L1 19 [.agg [nl,.d (.sl 2 Q2),.d (.v (.int .i64 (x0))),.d (.v (.int .i64 (x))),.d (.v (.int .i64 (y))),.d (.sl 2 Q3),nl,.d (.v (.string (B (o)))),.d (.sl 1 Q5),.d (.sl 1 Q6)]] []=some (wb q,[])):c6 Tryz.prog T1 L1 5 [.c (.d (.v (.string (B (s)))))] []=some (if(p&&(k1&&(k2&&q)))=true then(.tup [.agg [nl,.arr 0 0 M2,.d (.v (.int .i64 (x0))),.d (.v (.int .i64 (x))),.d (.v (.int .i64 (y))),.arr 1 0 M3,nl,.d (.v (.string (B (o)))),.arr 2 0 M5,.arr 3 0 M6],.c (.d (.v (.bool (true))))],[some (.arr 2 Q2),some (.arr 2 Q3),some (.arr 1 Q5),some (.arr 1 Q6)])else(.tup [.agg [nl,nl,zi,zi,zi,nl,nl,es,nl,nl],.c (.d (.v (.bool (false))))],[])):=by
 have hroom:room=70368744177664:=rfl
 cases p with
 |false=>
  clear g6
  simp only[Bool.true_and,Bool.false_and,Bool.and_true,Bool.and_false,Bool.not_true,Bool.not_false,if_true,if_false,Bool.false_eq_true,decide_true]
  exact fn V5 Tryz.func5
 |true=>
  cases k1 with
  |false=>
   clear g6
   simp only[Bool.true_and,Bool.false_and,Bool.and_true,Bool.and_false,Bool.not_true,Bool.not_false,if_true,if_false,Bool.false_eq_true,decide_true]
   exact fn V5 Tryz.func5
  |true=>
   cases k2 with
   |false=>
    clear g6
    simp only[Bool.true_and,Bool.false_and,Bool.and_true,Bool.and_false,Bool.not_true,Bool.not_false,if_true,if_false,Bool.false_eq_true,decide_true]
    exact fn V5 Tryz.func5
   |true=>
    replace g6:=g6 rfl rfl rfl
    cases q
    all_goals
     simp only[Bool.true_and,Bool.false_and,Bool.and_true,Bool.and_false,Bool.not_true,Bool.not_false,if_true,if_false,Bool.false_eq_true,decide_true]
     exact fn V5 Tryz.func5
theorem e0e(s u w:List UInt8)(t1 t2 t3 t4:Int)(b1 b2 b3 b4 p k1 k2 q:Bool)(x0 x y:Int)(o:List UInt8)(M1 M2 M3 M4 M5 M6:Nat)(Q1 Q2 Q3 Q4 Q5 Q6:List (List D))(g1:kR 15 s [] 0 false (ws u) t1 b1)(g2:kR 15 s [] t1 b1 (ws w) t2 b2)(r1:c6 Tryz.prog T1 L1 14 [.c (.d (.v (.string (B (u)))))] []=some (.tup [.agg [nl,.arr 0 0 M2,.d (.v (.int .i64 (x0))),.d (.v (.int .i64 (x))),.d (.v (.int .i64 (y)))],.c (.d (.v (.bool (k1))))],[some (.arr 2 Q2)]))(r2:c6 Tryz.prog T1 L1 16 [.c (.d (.v (.string (B (w)))))] []=some (.tup [.agg [.arr 0 0 M3,.arr 1 0 M4,.d (.v (.string (B (o))))],.c (.d (.v (.bool (k2))))],[some (.arr 2 Q3),some (.arr 3 Q4)]))(l1:c6 Tryz.prog T1 L1 17 [.c (.ptr 0 0 0),.c (.d (.v (.int .i64 (20))))] [rd s t2 b2]=some (.one (.c (.arr 1 0 M5)),[rd s t3 b3,some (.arr 1 Q5)]))(l2:c6 Tryz.prog T1 L1 17 [.c (.ptr 0 0 0),.c (.d (.v (.int .i64 (20))))] [rd s t3 b3]=some (.one (.c (.arr 1 0 M6)),[rd s t4 b4,some (.arr 1 Q6)]))(g5:kR 18 s [] t4 b4 (wb p) t4 b4)(e1:Q1.take M1=Q1)(e2:Q2.take M2=Q2)(e3:Q3.take M3=Q3)(e4:Q4.take M4=Q4)(e5:Q5.take M5=Q5)(e6:Q6.take M6=Q6)(g6:p=true->k1=true->k2=true->c6 Tryz.prog T1 L1 19 [.agg [nl,.d (.sl 2 Q2),.d (.v (.int .i64 (x0))),.d (.v (.int .i64 (x))),.d (.v (.int .i64 (y))),.d (.sl 2 Q3),.d (.sl 3 Q4),.d (.v (.string (B (o)))),.d (.sl 1 Q5),.d (.sl 1 Q6)]] []=some (wb q,[])):c6 Tryz.prog T1 L1 5 [.c (.d (.v (.string (B (s)))))] []=some (if(p&&(k1&&(k2&&q)))=true then(.tup [.agg [nl,.arr 0 0 M2,.d (.v (.int .i64 (x0))),.d (.v (.int .i64 (x))),.d (.v (.int .i64 (y))),.arr 1 0 M3,.arr 2 0 M4,.d (.v (.string (B (o)))),.arr 3 0 M5,.arr 4 0 M6],.c (.d (.v (.bool (true))))],[some (.arr 2 Q2),some (.arr 2 Q3),some (.arr 3 Q4),some (.arr 1 Q5),some (.arr 1 Q6)])else(.tup [.agg [nl,nl,zi,zi,zi,nl,nl,es,nl,nl],.c (.d (.v (.bool (false))))],[])):=by
 have hroom:room=70368744177664:=rfl
 cases p with
 |false=>
  clear g6
  simp only[Bool.true_and,Bool.false_and,Bool.and_true,Bool.and_false,Bool.not_true,Bool.not_false,if_true,if_false,Bool.false_eq_true,decide_true]
  exact fn V5 Tryz.func5
 |true=>
  cases k1 with
  |false=>
   clear g6
   simp only[Bool.true_and,Bool.false_and,Bool.and_true,Bool.and_false,Bool.not_true,Bool.not_false,if_true,if_false,Bool.false_eq_true,decide_true]
   exact fn V5 Tryz.func5
  |true=>
   cases k2 with
   |false=>
    clear g6
    simp only[Bool.true_and,Bool.false_and,Bool.and_true,Bool.and_false,Bool.not_true,Bool.not_false,if_true,if_false,Bool.false_eq_true,decide_true]
    exact fn V5 Tryz.func5
   |true=>
    replace g6:=g6 rfl rfl rfl
    cases q
    all_goals
     simp only[Bool.true_and,Bool.false_and,Bool.and_true,Bool.and_false,Bool.not_true,Bool.not_false,if_true,if_false,Bool.false_eq_true,decide_true]
     exact fn V5 Tryz.func5
end
end Go.Vsi
