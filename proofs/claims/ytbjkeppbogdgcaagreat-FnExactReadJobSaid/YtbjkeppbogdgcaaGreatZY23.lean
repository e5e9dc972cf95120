/- What the functions of the program, of the reference and of the law do (a part of it). -/
import Derived.Test.YtbjkeppbogdgcaaGreatZY20
namespace Go.Vsi
open Go.Proofs
noncomputable section
set_option maxRecDepth 100000
set_option maxHeartbeats 4000000
set_option linter.unusedSimpArgs false
set_option linter.unusedVariables false
attribute [local go_sem ↓] v6
abbrev a5e(so:List UInt8)(d:D)(e:D)(i:Int)(n:Int):Option (Ex×St):=g8 Tryz.prog T1 (c6 Tryz.prog T1 L1) 41 (cq Tryz.f41 [0,0,1,0,1]) ⟨[J,.one (.c (.ptr 0 0 0)),J,J,J,J,J,J,.one (.c (.d e)),.one (.c (.d (.v (.int .i64 (n))))),.one (.c (.d (.v (.int .i64 (i))))),J,J,J,J,J,J,J,J,J,J,J,J,J,J,J,J,J,J,J,J,J,J,J,J,J,J,J,J,J,J,J,J,J,J,J,J,J,J,J,J,J,J,J,J,J,J,J,J,J,J,J,J,J,J,J,J,J,J,J,J,J,J,J,J,J,J,J,J,J,J,J,J,J,J,J,J,J,J,J,J,J,J,J,J,J,J,J],c7 [some (.var [.d e,.d d,.d (.v (.string (B (so))))])],1,0⟩
abbrev c3s(so:List UInt8)(d:D)(e:D):Option (Ex×St):=some (.exit 0,⟨[J,.one (.c (.ptr 0 0 0)),J,J,J,J,J,J,J,J,J,J,J,J,J,J,J,J,J,J,J,J,J,J,J,J,J,J,J,J,J,J,J,J,J,J,J,J,J,J,J,J,J,J,J,J,J,J,J,J,J,J,J,J,J,J,J,J,J,J,J,J,J,J,J,J,J,J,J,J,J,J,J,J,J,J,J,J,J,J,J,J,J,J,J,J,J,J,J,J,J,J,J,J,J,J,J,J],c7 [some (.var [.d e,.d d,.d (.v (.string (B (so))))])],1,0⟩)
abbrev c3t(so:List UInt8)(d:D)(e:D):Option (Ex×St):=some (.ret,⟨[J,.one (.c (.ptr 0 0 0)),.one (.c (.d (.v (.bool (false))))),J,J,J,J,J,J,J,J,J,J,J,J,J,J,J,J,J,J,J,J,J,J,J,J,J,J,J,J,J,J,J,J,J,J,J,J,J,J,J,J,J,J,J,J,J,J,J,J,J,J,J,J,J,J,J,J,J,J,J,J,J,J,J,J,J,J,J,J,J,J,J,J,J,J,J,J,J,J,J,J,J,J,J,J,J,J,J,J,J,J,J,J,J,J,J],c7 [some (.var [.d e,.d d,.d (.v (.string (B (so))))])],1,0⟩)
theorem c3u(cb cl ce:Int)(so:List UInt8)(j1 j2 j3 j4 d:D)(R:List (List D))(n:Int)(hn:n<=1000000):a5e so d (.sl 2 R) n n=c3s so d (.sl 2 R):=by
 exact lp V41
theorem d9t(cb cl ce:Int)(so:List UInt8)(j1 j2 j3 j4 d:D):a5e so d (.v (.slice none 0 0)) 0 0=c3s so d (.v (.slice none 0 0)):=by
 exact lp V41
theorem f0k(cb cl ce:Int)(so:List UInt8)(j1 j2 j3 j4 d:D)(x y:List UInt8)(R:List (List D))(i:Int)(n:Int)(b:0<=i∧i<=0∧i<n∧n<=1000000)(hg:R[i.toNat]?=some [.v (.string (B (x))),.v (.string (B (y)))])(hx:x.length<=9000000000)(hy:y.length<=9000000000)(a:Bool)(ha:c6 Tryz.prog T1 L1 42 [.c (.d (.v (.string (B (x)))))] []=some (.one (.c (.d (.v (.bool (a))))),[])):a5e so d (.sl 2 R) i n=if(a&&decide (y.length<=40))=true then a5e so d (.sl 2 R) (i+1) n else c3t so d (.sl 2 R):=by
 cases a<;>by_cases g2:y.length<=40
 all_goals
  simp only[g2,decide_true,decide_false,Bool.and_true,Bool.true_and,Bool.and_false,Bool.false_and,if_true,if_false,Bool.false_eq_true]
  exact lp V41
theorem f0l(cb cl ce:Int)(so:List UInt8)(j1 j2 j3 j4 d:D)(x y:List UInt8)(R:List (List D))(i:Int)(n:Int)(b:0<i∧i<n∧n<=1000000)(hg:R[i.toNat]?=some [.v (.string (B (x))),.v (.string (B (y)))])(hx:x.length<=9000000000)(hy:y.length<=9000000000)(a:Bool)(ha:c6 Tryz.prog T1 L1 42 [.c (.d (.v (.string (B (x)))))] []=some (.one (.c (.d (.v (.bool (a))))),[]))(px py:List UInt8)(hp:R[(i-1).toNat]?=some [.v (.string (B (px))),.v (.string (B (py)))])(q:Bool)(hq:Op.bytesLess px x=q):a5e so d (.sl 2 R) i n=if(a&&decide (y.length<=40)&&q)=true then a5e so d (.sl 2 R) (i+1) n else c3t so d (.sl 2 R):=by
 cases a<;>by_cases g2:y.length<=40<;>cases q
 all_goals
  simp only[g2,decide_true,decide_false,Bool.and_true,Bool.true_and,Bool.and_false,Bool.false_and,if_true,if_false,Bool.false_eq_true]
  exact lp V41
abbrev a5f(so:List UInt8)(d:D)(e:D)(i:Int):Option (Ex×St):=g8 Tryz.prog T1 (c6 Tryz.prog T1 L1) 54 (cq Tryz.f54 [0,0,1,0,1]) ⟨[J,.one (.c (.ptr 0 0 0)),J,.one (.c (.d (.v (.int .i64 (i))))),J,J,J,J,J,J,J,J,J,J,J,J,J,J,J,J,J,J,J,J,J,J,J,J,J,J,J,J,J,J,J,J,J,J,J,J,J,J,J,J,J,J,J,J,J,J,J,J,J,J,J,J,J,J,J,J,J,J,J,J,J,J,J,J,J,J,J,J,J,J,J,J,J,J,J,J,J,J,J,J,J,J,J,J,J,J,J,J,J,J,J,J,J,J,J,J,J,J,J,J],c7 [some (.var [.d e,.d d,.d (.v (.string (B (so))))])],1,0⟩
abbrev c3v(so:List UInt8)(d:D)(e:D):Option (Ex×St):=some (.exit 0,⟨[J,.one (.c (.ptr 0 0 0)),J,J,J,J,J,J,J,J,J,J,J,J,J,J,J,J,J,J,J,J,J,J,J,J,J,J,J,J,J,J,J,J,J,J,J,J,J,J,J,J,J,J,J,J,J,J,J,J,J,J,J,J,J,J,J,J,J,J,J,J,J,J,J,J,J,J,J,J,J,J,J,J,J,J,J,J,J,J,J,J,J,J,J,J,J,J,J,J,J,J,J,J,J,J,J,J,J,J,J,J,J,J],c7 [some (.var [.d e,.d d,.d (.v (.string (B (so))))])],1,0⟩)
abbrev c3w(so:List UInt8)(d:D)(e:D):Option (Ex×St):=some (.ret,⟨[J,.one (.c (.ptr 0 0 0)),.one (.c (.d (.v (.bool (false))))),J,J,J,J,J,J,J,J,J,J,J,J,J,J,J,J,J,J,J,J,J,J,J,J,J,J,J,J,J,J,J,J,J,J,J,J,J,J,J,J,J,J,J,J,J,J,J,J,J,J,J,J,J,J,J,J,J,J,J,J,J,J,J,J,J,J,J,J,J,J,J,J,J,J,J,J,J,J,J,J,J,J,J,J,J,J,J,J,J,J,J,J,J,J,J,J,J,J,J,J,J],c7 [some (.var [.d e,.d d,.d (.v (.string (B (so))))])],1,0⟩)
theorem c3x(cb cl ce:Int)(so:List UInt8)(j1 j2 j3 j4 d:D)(R:List (List D))(hn:R.length<=1000000):a5f so d (.sl 2 R) (R.length:Int)=c3v so d (.sl 2 R):=by
 exact lp V54
theorem d9u(cb cl ce:Int)(so:List UInt8)(j1 j2 j3 j4 d:D):a5f so d (.v (.slice none 0 0)) 0=c3v so d (.v (.slice none 0 0)):=by
 exact lp V54
theorem f0m(cb cl ce:Int)(so:List UInt8)(j1 j2 j3 j4 d:D)(x y:List UInt8)(R:List (List D))(i:Int)(b:0<=i∧i<=0∧i<(R.length:Int)∧R.length<=1000000)(hg:R[i.toNat]?=some [.v (.string (B (x))),.v (.string (B (y)))])(hx:x.length<=9000000000)(hy:y.length<=9000000000)(a:Bool)(ha:c6 Tryz.prog T1 L1 56 [.c (.d (.v (.string (B (x)))))] []=some (.one (.c (.d (.v (.bool (a))))),[])):a5f so d (.sl 2 R) i=if(a&&decide (y.length<=40))=true then a5f so d (.sl 2 R) (i+1)else c3w so d (.sl 2 R):=by
 cases a<;>by_cases g2:y.length<=40
 all_goals
  simp only[g2,decide_true,decide_false,Bool.and_true,Bool.true_and,Bool.and_false,Bool.false_and,if_true,if_false,Bool.false_eq_true]
  exact lp V54
theorem f0n(cb cl ce:Int)(so:List UInt8)(j1 j2 j3 j4 d:D)(x y:List UInt8)(R:List (List D))(i:Int)(b:0<i∧i<(R.length:Int)∧R.length<=1000000)(hg:R[i.toNat]?=some [.v (.string (B (x))),.v (.string (B (y)))])(hx:x.length<=9000000000)(hy:y.length<=9000000000)(a:Bool)(ha:c6 Tryz.prog T1 L1 56 [.c (.d (.v (.string (B (x)))))] []=some (.one (.c (.d (.v (.bool (a))))),[]))(px py:List UInt8)(hp:R[(i-1).toNat]?=some [.v (.string (B (px))),.v (.string (B (py)))])(q:Bool)(hq:Op.bytesLess px x=q):a5f so d (.sl 2 R) i=if(a&&decide (y.length<=40)&&q)=true then a5f so d (.sl 2 R) (i+1)else c3w so d (.sl 2 R):=by
 cases a<;>by_cases g2:y.length<=40<;>cases q
 all_goals
  simp only[g2,decide_true,decide_false,Bool.and_true,Bool.true_and,Bool.and_false,Bool.false_and,if_true,if_false,Bool.false_eq_true]
  exact lp V54
end
end Go.Vsi
namespace Go.Vsi
open Go.Proofs
noncomputable section
set_option maxRecDepth 100000
set_option maxHeartbeats 4000000
set_option linter.unusedSimpArgs false
set_option linter.unusedVariables false
attribute [local go_sem ↓] v6
abbrev a2g(so:List UInt8)(d:D)(e:D)(i:Int)(n:Int):Option (Ex×St):=g8 Tryz.prog T1 (c6 Tryz.prog T1 L1) 41 (cq Tryz.f41 [0,0,1,0,1,1]) ⟨[J,.one (.c (.ptr 0 0 0)),J,J,J,J,J,J,J,J,J,J,J,J,J,J,J,J,J,J,J,J,J,J,J,J,J,J,J,J,J,J,J,J,J,J,J,J,J,J,J,J,J,.one (.c (.d e)),.one (.c (.d (.v (.int .i64 (n))))),.one (.c (.d (.v (.int .i64 (i))))),J,J,J,J,J,J,J,J,J,J,J,J,J,J,J,J,J,J,J,J,J,J,J,J,J,J,J,J,J,J,J,J,J,J,J,J,J,J,J,J,J,J,J,J,J,J,J,J,J,J,J,J],c7 [some (.var [.d d,.d e,.d (.v (.string (B (so))))])],1,0⟩
abbrev b9a(so:List UInt8)(d:D)(e:D):Option (Ex×St):=some (.exit 2,⟨[J,.one (.c (.ptr 0 0 0)),J,J,J,J,J,J,J,J,J,J,J,J,J,J,J,J,J,J,J,J,J,J,J,J,J,J,J,J,J,J,J,J,J,J,J,J,J,J,J,J,J,J,J,J,J,J,J,J,J,J,J,J,J,J,J,J,J,J,J,J,J,J,J,J,J,J,J,J,J,J,J,J,J,J,J,J,J,J,J,J,J,J,J,J,J,J,J,J,J,J,J,J,J,J,J,J],c7 [some (.var [.d d,.d e,.d (.v (.string (B (so))))])],1,0⟩)
abbrev b9b(so:List UInt8)(d:D)(e:D):Option (Ex×St):=some (.ret,⟨[J,.one (.c (.ptr 0 0 0)),.one (.c (.d (.v (.bool (false))))),J,J,J,J,J,J,J,J,J,J,J,J,J,J,J,J,J,J,J,J,J,J,J,J,J,J,J,J,J,J,J,J,J,J,J,J,J,J,J,J,J,J,J,J,J,J,J,J,J,J,J,J,J,J,J,J,J,J,J,J,J,J,J,J,J,J,J,J,J,J,J,J,J,J,J,J,J,J,J,J,J,J,J,J,J,J,J,J,J,J,J,J,J,J,J],c7 [some (.var [.d d,.d e,.d (.v (.string (B (so))))])],1,0⟩)
theorem c0y(cb cl ce:Int)(so:List UInt8)(j1 j2 j3 j4 d:D)(R:List (List D))(n:Int)(hn:n<=1000000):a2g so d (.sl 3 R) n n=b9a so d (.sl 3 R):=by
 exact lp V41
theorem d5p(cb cl ce:Int)(so:List UInt8)(j1 j2 j3 j4 d:D):a2g so d (.v (.slice none 0 0)) 0 0=b9a so d (.v (.slice none 0 0)):=by
 exact lp V41
theorem e5g(cb cl ce:Int)(so:List UInt8)(j1 j2 j3 j4 d:D)(x y z:List UInt8)(R:List (List D))(i:Int)(n:Int)(b:0<=i∧i<=0∧i<n∧n<=1000000)(hg:R[i.toNat]?=some [.v (.string (B (x))),.v (.string (B (y))),.v (.string (B (z)))])(hx:x.length<=9000000000)(hy:y.length<=9000000000)(hz:z.length<=9000000000)(a:Bool)(ha:c6 Tryz.prog T1 L1 42 [.c (.d (.v (.string (B (x)))))] []=some (.one (.c (.d (.v (.bool (a))))),[])):a2g so d (.sl 3 R) i n=if(a&&decide (y.length<=40)&&decide (z.length<=40))=true then a2g so d (.sl 3 R) (i+1) n else b9b so d (.sl 3 R):=by
 cases a<;>by_cases g2:y.length<=40<;>by_cases g3:z.length<=40
 all_goals
  simp only[g2,g3,decide_true,decide_false,Bool.and_true,Bool.true_and,Bool.and_false,Bool.false_and,if_true,if_false,Bool.false_eq_true]
  exact lp V41
theorem e5h(cb cl ce:Int)(so:List UInt8)(j1 j2 j3 j4 d:D)(x y z:List UInt8)(R:List (List D))(i:Int)(n:Int)(b:0<i∧i<n∧n<=1000000)(hg:R[i.toNat]?=some [.v (.string (B (x))),.v (.string (B (y))),.v (.string (B (z)))])(hx:x.length<=9000000000)(hy:y.length<=9000000000)(hz:z.length<=9000000000)(a:Bool)(ha:c6 Tryz.prog T1 L1 42 [.c (.d (.v (.string (B (x)))))] []=some (.one (.c (.d (.v (.bool (a))))),[]))(px py pz:List UInt8)(hp:R[(i-1).toNat]?=some [.v (.string (B (px))),.v (.string (B (py))),.v (.string (B (pz)))])(kk:Int)(q:Bool)(hk:c6 Tryz.prog T1 L1 60 [.agg [.d (.v (.string (B (px)))),.d (.v (.string (B (py)))),.d (.v (.string (B (pz))))],.agg [.d (.v (.string (B (x)))),.d (.v (.string (B (y)))),.d (.v (.string (B (z))))]] []=some (.one (.c (.d (.v (.int .i64 (kk))))),[]))(hq:decide (0<=kk)=!q):a2g so d (.sl 3 R) i n=if(a&&decide (y.length<=40)&&decide (z.length<=40)&&q)=true then a2g so d (.sl 3 R) (i+1) n else b9b so d (.sl 3 R):=by
 cases a<;>by_cases g2:y.length<=40<;>by_cases g3:z.length<=40<;>cases q
 all_goals
  simp only[g2,g3,decide_true,decide_false,Bool.and_true,Bool.true_and,Bool.and_false,Bool.false_and,if_true,if_false,Bool.false_eq_true]
  exact lp V41
abbrev a2h(so:List UInt8)(d:D)(e:D)(i:Int):Option (Ex×St):=g8 Tryz.prog T1 (c6 Tryz.prog T1 L1) 54 (cq Tryz.f54 [0,0,1,0,1,1]) ⟨[J,.one (.c (.ptr 0 0 0)),J,J,J,.one (.c (.d (.v (.int .i64 (i))))),J,J,J,J,J,J,J,J,J,J,J,J,J,J,J,J,J,J,J,J,J,J,J,J,J,J,J,J,J,J,J,J,J,J,J,J,J,J,J,J,J,J,J,J,J,J,J,J,J,J,J,J,J,J,J,J,J,J,J,J,J,J,J,J,J,J,J,J,J,J,J,J,J,J,J,J,J,J,J,J,J,J,J,J,J,J,J,J,J,J,J,J,J,J,J,J,J,J],c7 [some (.var [.d d,.d e,.d (.v (.string (B (so))))])],1,0⟩
abbrev b9c(so:List UInt8)(d:D)(e:D):Option (Ex×St):=some (.exit 2,⟨[J,.one (.c (.ptr 0 0 0)),J,J,J,J,J,J,J,J,J,J,J,J,J,J,J,J,J,J,J,J,J,J,J,J,J,J,J,J,J,J,J,J,J,J,J,J,J,J,J,J,J,J,J,J,J,J,J,J,J,J,J,J,J,J,J,J,J,J,J,J,J,J,J,J,J,J,J,J,J,J,J,J,J,J,J,J,J,J,J,J,J,J,J,J,J,J,J,J,J,J,J,J,J,J,J,J,J,J,J,J,J,J],c7 [some (.var [.d d,.d e,.d (.v (.string (B (so))))])],1,0⟩)
abbrev b9d(so:List UInt8)(d:D)(e:D):Option (Ex×St):=some (.ret,⟨[J,.one (.c (.ptr 0 0 0)),.one (.c (.d (.v (.bool (false))))),J,J,J,J,J,J,J,J,J,J,J,J,J,J,J,J,J,J,J,J,J,J,J,J,J,J,J,J,J,J,J,J,J,J,J,J,J,J,J,J,J,J,J,J,J,J,J,J,J,J,J,J,J,J,J,J,J,J,J,J,J,J,J,J,J,J,J,J,J,J,J,J,J,J,J,J,J,J,J,J,J,J,J,J,J,J,J,J,J,J,J,J,J,J,J,J,J,J,J,J,J],c7 [some (.var [.d d,.d e,.d (.v (.string (B (so))))])],1,0⟩)
theorem c0z(cb cl ce:Int)(so:List UInt8)(j1 j2 j3 j4 d:D)(R:List (List D))(hn:R.length<=1000000):a2h so d (.sl 3 R) (R.length:Int)=b9c so d (.sl 3 R):=by
 exact lp V54
theorem d5q(cb cl ce:Int)(so:List UInt8)(j1 j2 j3 j4 d:D):a2h so d (.v (.slice none 0 0)) 0=b9c so d (.v (.slice none 0 0)):=by
 exact lp V54
theorem e5i(cb cl ce:Int)(so:List UInt8)(j1 j2 j3 j4 d:D)(x y z:List UInt8)(R:List (List D))(i:Int)(b:0<=i∧i<=0∧i<(R.length:Int)∧R.length<=1000000)(hg:R[i.toNat]?=some [.v (.string (B (x))),.v (.string (B (y))),.v (.string (B (z)))])(hx:x.length<=9000000000)(hy:y.length<=9000000000)(hz:z.length<=9000000000)(a:Bool)(ha:c6 Tryz.prog T1 L1 56 [.c (.d (.v (.string (B (x)))))] []=some (.one (.c (.d (.v (.bool (a))))),[])):a2h so d (.sl 3 R) i=if(a&&decide (y.length<=40)&&decide (z.length<=40))=true then a2h so d (.sl 3 R) (i+1)else b9d so d (.sl 3 R):=by
 cases a<;>by_cases g2:y.length<=40<;>by_cases g3:z.length<=40
 all_goals
  simp only[g2,g3,decide_true,decide_false,Bool.and_true,Bool.true_and,Bool.and_false,Bool.false_and,if_true,if_false,Bool.false_eq_true]
  exact lp V54
theorem e5j(cb cl ce:Int)(so:List UInt8)(j1 j2 j3 j4 d:D)(x y z:List UInt8)(R:List (List D))(i:Int)(b:0<i∧i<(R.length:Int)∧R.length<=1000000)(hg:R[i.toNat]?=some [.v (.string (B (x))),.v (.string (B (y))),.v (.string (B (z)))])(hx:x.length<=9000000000)(hy:y.length<=9000000000)(hz:z.length<=9000000000)(a:Bool)(ha:c6 Tryz.prog T1 L1 56 [.c (.d (.v (.string (B (x)))))] []=some (.one (.c (.d (.v (.bool (a))))),[]))(px py pz:List UInt8)(hp:R[(i-1).toNat]?=some [.v (.string (B (px))),.v (.string (B (py))),.v (.string (B (pz)))])(q:Bool)(hq:c6 Tryz.prog T1 L1 66 [.agg [.d (.v (.string (B (px)))),.d (.v (.string (B (py)))),.d (.v (.string (B (pz))))],.agg [.d (.v (.string (B (x)))),.d (.v (.string (B (y)))),.d (.v (.string (B (z))))]] []=some (.one (.c (.d (.v (.bool (q))))),[])):a2h so d (.sl 3 R) i=if(a&&decide (y.length<=40)&&decide (z.length<=40)&&q)=true then a2h so d (.sl 3 R) (i+1)else b9d so d (.sl 3 R):=by
 cases a<;>by_cases g2:y.length<=40<;>by_cases g3:z.length<=40<;>cases q
 all_goals
  simp only[g2,g3,decide_true,decide_false,Bool.and_true,Bool.true_and,Bool.and_false,Bool.false_and,if_true,if_false,Bool.false_eq_true]
  exact lp V54
end
end Go.Vsi
