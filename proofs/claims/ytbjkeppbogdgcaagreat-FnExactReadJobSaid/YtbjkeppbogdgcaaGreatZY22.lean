/- What the functions of the program, of the reference and of the law do (a part of it). -/
import Derived.Test.YtbjkeppbogdgcaaGreatZY20
namespace Go.Vsi
open Go.Proofs
noncomputable section
set_option maxRecDepth 100000
set_option maxHeartbeats 4000000
set_option linter.unusedSimpArgs false
set_option linter.unusedVariables false
attribute [local go_sem ↓] v6
abbrev a6h(cb:Int)(cl:Int)(ce:Int)(d:D)(e:D)(i:Int)(n:Int):Option (Ex×St):=g8 Tryz.prog T1 (c6 Tryz.prog T1 L1) 39 (cq Tryz.f39 [0,0,1,0,1]) ⟨[J,.one (.c (.ptr 0 0 0)),J,J,J,J,J,J,.one (.c (.d e)),.one (.c (.d (.v (.int .i64 (n))))),.one (.c (.d (.v (.int .i64 (i))))),J,J,J,J,J,J,J,J,J,J,J,J,J,J,J,J,J,J,J,J,J,J,J,J,J,J,J,J,J,J,J,J,J,J,J,J,J,J,J,J,J,J,J,J,J,J,J,J,J,J,J,J,J,J,J,J,J,J,J,J,J,J,J,J,J,J,J,J,J,J,J,J,J,J,J,J,J,J,J,J,J],c7 [some (.var [.d e,.d d,.d (.v (.int .i64 (cb))),.d (.v (.int .i64 (cl))),.d (.v (.int .i64 (ce)))])],1,0⟩
abbrev b8t(cb:Int)(cl:Int)(ce:Int)(d:D)(e:D):Option (Ex×St):=some (.exit 0,⟨[J,.one (.c (.ptr 0 0 0)),J,J,J,J,J,J,J,J,J,J,J,J,J,J,J,J,J,J,J,J,J,J,J,J,J,J,J,J,J,J,J,J,J,J,J,J,J,J,J,J,J,J,J,J,J,J,J,J,J,J,J,J,J,J,J,J,J,J,J,J,J,J,J,J,J,J,J,J,J,J,J,J,J,J,J,J,J,J,J,J,J,J,J,J,J,J,J,J,J,J],c7 [some (.var [.d e,.d d,.d (.v (.int .i64 (cb))),.d (.v (.int .i64 (cl))),.d (.v (.int .i64 (ce)))])],1,0⟩)
abbrev c7y(cb:Int)(cl:Int)(ce:Int)(d:D)(e:D):Option (Ex×St):=some (.ret,⟨[J,.one (.c (.ptr 0 0 0)),.one (.c (.d (.v (.bool (false))))),J,J,J,J,J,J,J,J,J,J,J,J,J,J,J,J,J,J,J,J,J,J,J,J,J,J,J,J,J,J,J,J,J,J,J,J,J,J,J,J,J,J,J,J,J,J,J,J,J,J,J,J,J,J,J,J,J,J,J,J,J,J,J,J,J,J,J,J,J,J,J,J,J,J,J,J,J,J,J,J,J,J,J,J,J,J,J,J,J],c7 [some (.var [.d e,.d d,.d (.v (.int .i64 (cb))),.d (.v (.int .i64 (cl))),.d (.v (.int .i64 (ce)))])],1,0⟩)
theorem c0r(cb cl ce:Int)(so:List UInt8)(j1 j2 j3 j4 d:D)(R:List (List D))(n:Int)(hn:n<=1000000):a6h cb cl ce d (.sl 1 R) n n=b8t cb cl ce d (.sl 1 R):=by
 exact lp V39
theorem d5i(cb cl ce:Int)(so:List UInt8)(j1 j2 j3 j4 d:D):a6h cb cl ce d (.v (.slice none 0 0)) 0 0=b8t cb cl ce d (.v (.slice none 0 0)):=by
 exact lp V39
theorem e4z(cb cl ce:Int)(so:List UInt8)(j1 j2 j3 j4 d:D)(x:List UInt8)(R:List (List D))(i:Int)(n:Int)(b:0<=i∧i<n∧n<=1000000)(hg:R[i.toNat]?=some [.v (.string (B (x)))])(hx:x.length<=9000000000):a6h cb cl ce d (.sl 1 R) i n=if(decide (x.length<=30))=true then a6h cb cl ce d (.sl 1 R) (i+1) n else c7y cb cl ce d (.sl 1 R):=by
 by_cases g1:x.length<=30
 all_goals
  simp only[g1,decide_true,decide_false,Bool.and_true,Bool.true_and,Bool.and_false,Bool.false_and,if_true,if_false,Bool.false_eq_true]
  exact lp V39
abbrev a6i(cb:Int)(cl:Int)(ce:Int)(d:D)(e:D)(i:Int):Option (Ex×St):=g8 Tryz.prog T1 (c6 Tryz.prog T1 L1) 53 (cq Tryz.f53 [0,0,1,0,1]) ⟨[J,.one (.c (.ptr 0 0 0)),J,.one (.c (.d (.v (.int .i64 (i))))),J,J,J,J,J,J,J,J,J,J,J,J,J,J,J,J,J,J,J,J,J,J,J,J,J,J,J,J,J,J,J,J,J,J,J,J,J,J,J,J,J,J,J,J,J,J,J,J,J,J,J,J,J,J,J,J,J,J,J,J,J,J,J,J,J,J,J,J,J,J],c7 [some (.var [.d e,.d d,.d (.v (.int .i64 (cb))),.d (.v (.int .i64 (cl))),.d (.v (.int .i64 (ce)))])],1,0⟩
abbrev b8u(cb:Int)(cl:Int)(ce:Int)(d:D)(e:D):Option (Ex×St):=some (.exit 0,⟨[J,.one (.c (.ptr 0 0 0)),J,J,J,J,J,J,J,J,J,J,J,J,J,J,J,J,J,J,J,J,J,J,J,J,J,J,J,J,J,J,J,J,J,J,J,J,J,J,J,J,J,J,J,J,J,J,J,J,J,J,J,J,J,J,J,J,J,J,J,J,J,J,J,J,J,J,J,J,J,J,J,J],c7 [some (.var [.d e,.d d,.d (.v (.int .i64 (cb))),.d (.v (.int .i64 (cl))),.d (.v (.int .i64 (ce)))])],1,0⟩)
abbrev c7z(cb:Int)(cl:Int)(ce:Int)(d:D)(e:D):Option (Ex×St):=some (.ret,⟨[J,.one (.c (.ptr 0 0 0)),.one (.c (.d (.v (.bool (false))))),J,J,J,J,J,J,J,J,J,J,J,J,J,J,J,J,J,J,J,J,J,J,J,J,J,J,J,J,J,J,J,J,J,J,J,J,J,J,J,J,J,J,J,J,J,J,J,J,J,J,J,J,J,J,J,J,J,J,J,J,J,J,J,J,J,J,J,J,J,J,J],c7 [some (.var [.d e,.d d,.d (.v (.int .i64 (cb))),.d (.v (.int .i64 (cl))),.d (.v (.int .i64 (ce)))])],1,0⟩)
theorem c0s(cb cl ce:Int)(so:List UInt8)(j1 j2 j3 j4 d:D)(R:List (List D))(hn:R.length<=1000000):a6i cb cl ce d (.sl 1 R) (R.length:Int)=b8u cb cl ce d (.sl 1 R):=by
 exact lp V53
theorem d5j(cb cl ce:Int)(so:List UInt8)(j1 j2 j3 j4 d:D):a6i cb cl ce d (.v (.slice none 0 0)) 0=b8u cb cl ce d (.v (.slice none 0 0)):=by
 exact lp V53
theorem e5a(cb cl ce:Int)(so:List UInt8)(j1 j2 j3 j4 d:D)(x:List UInt8)(R:List (List D))(i:Int)(b:0<=i∧i<(R.length:Int)∧R.length<=1000000)(hg:R[i.toNat]?=some [.v (.string (B (x)))])(hx:x.length<=9000000000):a6i cb cl ce d (.sl 1 R) i=if(decide (x.length<=30))=true then a6i cb cl ce d (.sl 1 R) (i+1)else c7z cb cl ce d (.sl 1 R):=by
 by_cases g1:x.length<=30
 all_goals
  simp only[g1,decide_true,decide_false,Bool.and_true,Bool.true_and,Bool.and_false,Bool.false_and,if_true,if_false,Bool.false_eq_true]
  exact lp V53
abbrev a6j(cb:Int)(cl:Int)(ce:Int)(d:D)(e:D)(i:Int)(n:Int):Option (Ex×St):=g8 Tryz.prog T1 (c6 Tryz.prog T1 L1) 39 (cq Tryz.f39 [0,0,1,0,1,1]) ⟨[J,.one (.c (.ptr 0 0 0)),J,J,J,J,J,J,J,J,J,J,J,J,J,J,J,J,J,.one (.c (.d e)),.one (.c (.d (.v (.int .i64 (n))))),.one (.c (.d (.v (.int .i64 (i))))),J,J,J,J,J,J,J,J,J,J,J,J,J,J,J,J,J,J,J,J,J,J,J,J,J,J,J,J,J,J,J,J,J,J,J,J,J,J,J,J,J,J,J,J,J,J,J,J,J,J,J,J,J,J,J,J,J,J,J,J,J,J,J,J,J,J,J,J,J,J],c7 [some (.var [.d d,.d e,.d (.v (.int .i64 (cb))),.d (.v (.int .i64 (cl))),.d (.v (.int .i64 (ce)))])],1,0⟩
abbrev b8v(cb:Int)(cl:Int)(ce:Int)(d:D)(e:D):Option (Ex×St):=some (.exit 2,⟨[J,.one (.c (.ptr 0 0 0)),J,J,J,J,J,J,J,J,J,J,J,J,J,J,J,J,J,J,J,J,J,J,J,J,J,J,J,J,J,J,J,J,J,J,J,J,J,J,J,J,J,J,J,J,J,J,J,J,J,J,J,J,J,J,J,J,J,J,J,J,J,J,J,J,J,J,J,J,J,J,J,J,J,J,J,J,J,J,J,J,J,J,J,J,J,J,J,J,J,J],c7 [some (.var [.d d,.d e,.d (.v (.int .i64 (cb))),.d (.v (.int .i64 (cl))),.d (.v (.int .i64 (ce)))])],1,0⟩)
abbrev c8a(cb:Int)(cl:Int)(ce:Int)(d:D)(e:D):Option (Ex×St):=some (.ret,⟨[J,.one (.c (.ptr 0 0 0)),.one (.c (.d (.v (.bool (false))))),J,J,J,J,J,J,J,J,J,J,J,J,J,J,J,J,J,J,J,J,J,J,J,J,J,J,J,J,J,J,J,J,J,J,J,J,J,J,J,J,J,J,J,J,J,J,J,J,J,J,J,J,J,J,J,J,J,J,J,J,J,J,J,J,J,J,J,J,J,J,J,J,J,J,J,J,J,J,J,J,J,J,J,J,J,J,J,J,J],c7 [some (.var [.d d,.d e,.d (.v (.int .i64 (cb))),.d (.v (.int .i64 (cl))),.d (.v (.int .i64 (ce)))])],1,0⟩)
theorem c0t(cb cl ce:Int)(so:List UInt8)(j1 j2 j3 j4 d:D)(R:List (List D))(n:Int)(hn:n<=1000000):a6j cb cl ce d (.sl 2 R) n n=b8v cb cl ce d (.sl 2 R):=by
 exact lp V39
theorem d5k(cb cl ce:Int)(so:List UInt8)(j1 j2 j3 j4 d:D):a6j cb cl ce d (.v (.slice none 0 0)) 0 0=b8v cb cl ce d (.v (.slice none 0 0)):=by
 exact lp V39
theorem e5b(cb cl ce:Int)(so:List UInt8)(j1 j2 j3 j4 d:D)(x y:Int)(R:List (List D))(i:Int)(n:Int)(b:0<=i∧i<n∧n<=1000000)(hg:R[i.toNat]?=some [.v (.int .i64 (x)),.v (.int .i64 (y))])(a a2:Bool)(h1:c6 Tryz.prog T1 L1 58 [.c (.d (.v (.int .i64 (x)))),.c (.d (.v (.int .i64 (1)))),.c (.d (.v (.int .i64 (24))))] []=some (.one (.c (.d (.v (.bool (a))))),[]))(h2:c6 Tryz.prog T1 L1 58 [.c (.d (.v (.int .i64 (y)))),.c (.d (.v (.int .i64 (0)))),.c (.d (.v (.int .i64 (255))))] []=some (.one (.c (.d (.v (.bool (a2))))),[])):a6j cb cl ce d (.sl 2 R) i n=if(a&&a2)=true then a6j cb cl ce d (.sl 2 R) (i+1) n else c8a cb cl ce d (.sl 2 R):=by
 cases a<;>cases a2
 all_goals
  simp only[decide_true,decide_false,Bool.and_true,Bool.true_and,Bool.and_false,Bool.false_and,if_true,if_false,Bool.false_eq_true]
  exact lp V39
abbrev a6k(cb:Int)(cl:Int)(ce:Int)(so:List UInt8)(j1:D)(j2:D)(j3:D)(j4:D)(d:D)(e:D)(i:Int)(n:Int):Option (Ex×St):=g8 Tryz.prog T1 (c6 Tryz.prog T1 L1) 19 (cq Tryz.f19 [0,0,1,0,1]) ⟨[J,.one (.c (.ptr 0 0 0)),J,J,J,J,J,J,.one (.c (.d e)),.one (.c (.d (.v (.int .i64 (n))))),.one (.c (.d (.v (.int .i64 (i))))),J,J,J,J,J,J,J,J,J,J,J,J,J,J,J,J,J,J,J,J,J,J,J,J,J,J,J,J,J,J,J,J,J,J,J,J,J,J],c7 [some (.var [.d j1,.d j2,.d (.v (.int .i64 (cb))),.d (.v (.int .i64 (cl))),.d (.v (.int .i64 (ce))),.d j3,.d j4,.d (.v (.string (B (so)))),.d e,.d d])],1,0⟩
abbrev b8w(cb:Int)(cl:Int)(ce:Int)(so:List UInt8)(j1:D)(j2:D)(j3:D)(j4:D)(d:D)(e:D):Option (Ex×St):=some (.exit 0,⟨[J,.one (.c (.ptr 0 0 0)),J,J,J,J,J,J,J,J,J,J,J,J,J,J,J,J,J,J,J,J,J,J,J,J,J,J,J,J,J,J,J,J,J,J,J,J,J,J,J,J,J,J,J,J,J,J,J],c7 [some (.var [.d j1,.d j2,.d (.v (.int .i64 (cb))),.d (.v (.int .i64 (cl))),.d (.v (.int .i64 (ce))),.d j3,.d j4,.d (.v (.string (B (so)))),.d e,.d d])],1,0⟩)
abbrev c8b(cb:Int)(cl:Int)(ce:Int)(so:List UInt8)(j1:D)(j2:D)(j3:D)(j4:D)(d:D)(e:D):Option (Ex×St):=some (.ret,⟨[J,.one (.c (.ptr 0 0 0)),.one (.c (.d (.v (.bool (false))))),J,J,J,J,J,J,J,J,J,J,J,J,J,J,J,J,J,J,J,J,J,J,J,J,J,J,J,J,J,J,J,J,J,J,J,J,J,J,J,J,J,J,J,J,J,J],c7 [some (.var [.d j1,.d j2,.d (.v (.int .i64 (cb))),.d (.v (.int .i64 (cl))),.d (.v (.int .i64 (ce))),.d j3,.d j4,.d (.v (.string (B (so)))),.d e,.d d])],1,0⟩)
theorem c0u(cb cl ce:Int)(so:List UInt8)(j1 j2 j3 j4 d:D)(R:List (List D))(n:Int)(hn:n<=1000000):a6k cb cl ce so j1 j2 j3 j4 d (.sl 1 R) n n=b8w cb cl ce so j1 j2 j3 j4 d (.sl 1 R):=by
 exact lp V19
theorem d5l(cb cl ce:Int)(so:List UInt8)(j1 j2 j3 j4 d:D):a6k cb cl ce so j1 j2 j3 j4 d (.v (.slice none 0 0)) 0 0=b8w cb cl ce so j1 j2 j3 j4 d (.v (.slice none 0 0)):=by
 exact lp V19
theorem e5c(cb cl ce:Int)(so:List UInt8)(j1 j2 j3 j4 d:D)(x:List UInt8)(R:List (List D))(i:Int)(n:Int)(b:0<=i∧i<n∧n<=1000000)(hg:R[i.toNat]?=some [.v (.string (B (x)))])(hx:x.length<=9000000000)(a:Bool)(ha:c6 Tryz.prog T1 L1 42 [.c (.d (.v (.string (B (x)))))] []=some (.one (.c (.d (.v (.bool (a))))),[])):a6k cb cl ce so j1 j2 j3 j4 d (.sl 1 R) i n=if(a)=true then a6k cb cl ce so j1 j2 j3 j4 d (.sl 1 R) (i+1) n else c8b cb cl ce so j1 j2 j3 j4 d (.sl 1 R):=by
 cases a
 all_goals
  simp only[decide_true,decide_false,Bool.and_true,Bool.true_and,Bool.and_false,Bool.false_and,if_true,if_false,Bool.false_eq_true]
  exact lp V19
abbrev a6l(cb:Int)(cl:Int)(ce:Int)(so:List UInt8)(j1:D)(j2:D)(j3:D)(j4:D)(d:D)(e:D)(i:Int):Option (Ex×St):=g8 Tryz.prog T1 (c6 Tryz.prog T1 L1) 33 (cq Tryz.f33 [0,0,1,0,1]) ⟨[J,.one (.c (.ptr 0 0 0)),J,.one (.c (.d (.v (.int .i64 (i))))),J,J,J,J,J,J,J,J,J,J,J,J,J,J,J,J,J,J,J,J,J,J,J,J,J,J,J,J,J,J,J,J,J,J,J,J,J,J,J,J,J,J,J,J,J,J,J,J,J],c7 [some (.var [.d j1,.d j2,.d (.v (.int .i64 (cb))),.d (.v (.int .i64 (cl))),.d (.v (.int .i64 (ce))),.d j3,.d j4,.d (.v (.string (B (so)))),.d e,.d d])],1,0⟩
abbrev b8x(cb:Int)(cl:Int)(ce:Int)(so:List UInt8)(j1:D)(j2:D)(j3:D)(j4:D)(d:D)(e:D):Option (Ex×St):=some (.exit 0,⟨[J,.one (.c (.ptr 0 0 0)),J,J,J,J,J,J,J,J,J,J,J,J,J,J,J,J,J,J,J,J,J,J,J,J,J,J,J,J,J,J,J,J,J,J,J,J,J,J,J,J,J,J,J,J,J,J,J,J,J,J,J],c7 [some (.var [.d j1,.d j2,.d (.v (.int .i64 (cb))),.d (.v (.int .i64 (cl))),.d (.v (.int .i64 (ce))),.d j3,.d j4,.d (.v (.string (B (so)))),.d e,.d d])],1,0⟩)
abbrev c8c(cb:Int)(cl:Int)(ce:Int)(so:List UInt8)(j1:D)(j2:D)(j3:D)(j4:D)(d:D)(e:D):Option (Ex×St):=some (.ret,⟨[J,.one (.c (.ptr 0 0 0)),.one (.c (.d (.v (.bool (false))))),J,J,J,J,J,J,J,J,J,J,J,J,J,J,J,J,J,J,J,J,J,J,J,J,J,J,J,J,J,J,J,J,J,J,J,J,J,J,J,J,J,J,J,J,J,J,J,J,J,J],c7 [some (.var [.d j1,.d j2,.d (.v (.int .i64 (cb))),.d (.v (.int .i64 (cl))),.d (.v (.int .i64 (ce))),.d j3,.d j4,.d (.v (.string (B (so)))),.d e,.d d])],1,0⟩)
theorem c0v(cb cl ce:Int)(so:List UInt8)(j1 j2 j3 j4 d:D)(R:List (List D))(hn:R.length<=1000000):a6l cb cl ce so j1 j2 j3 j4 d (.sl 1 R) (R.length:Int)=b8x cb cl ce so j1 j2 j3 j4 d (.sl 1 R):=by
 exact lp V33
theorem d5m(cb cl ce:Int)(so:List UInt8)(j1 j2 j3 j4 d:D):a6l cb cl ce so j1 j2 j3 j4 d (.v (.slice none 0 0)) 0=b8x cb cl ce so j1 j2 j3 j4 d (.v (.slice none 0 0)):=by
 exact lp V33
theorem e5d(cb cl ce:Int)(so:List UInt8)(j1 j2 j3 j4 d:D)(x:List UInt8)(R:List (List D))(i:Int)(b:0<=i∧i<(R.length:Int)∧R.length<=1000000)(hg:R[i.toNat]?=some [.v (.string (B (x)))])(hx:x.length<=9000000000)(a:Bool)(ha:c6 Tryz.prog T1 L1 56 [.c (.d (.v (.string (B (x)))))] []=some (.one (.c (.d (.v (.bool (a))))),[])):a6l cb cl ce so j1 j2 j3 j4 d (.sl 1 R) i=if(a)=true then a6l cb cl ce so j1 j2 j3 j4 d (.sl 1 R) (i+1)else c8c cb cl ce so j1 j2 j3 j4 d (.sl 1 R):=by
 cases a
 all_goals
  simp only[decide_true,decide_false,Bool.and_true,Bool.true_and,Bool.and_false,Bool.false_and,if_true,if_false,Bool.false_eq_true]
  exact lp V33
abbrev a6m(cb:Int)(cl:Int)(ce:Int)(so:List UInt8)(j1:D)(j2:D)(j3:D)(j4:D)(d:D)(e:D)(i:Int)(n:Int):Option (Ex×St):=g8 Tryz.prog T1 (c6 Tryz.prog T1 L1) 19 (cq Tryz.f19 [0,0,1,0,1,1]) ⟨[J,.one (.c (.ptr 0 0 0)),J,J,J,J,J,J,J,J,J,J,J,J,J,J,J,J,J,.one (.c (.d e)),.one (.c (.d (.v (.int .i64 (n))))),.one (.c (.d (.v (.int .i64 (i))))),J,J,J,J,J,J,J,J,J,J,J,J,J,J,J,J,J,J,J,J,J,J,J,J,J,J,J],c7 [some (.var [.d j1,.d j2,.d (.v (.int .i64 (cb))),.d (.v (.int .i64 (cl))),.d (.v (.int .i64 (ce))),.d j3,.d j4,.d (.v (.string (B (so)))),.d d,.d e])],1,0⟩
abbrev b8y(cb:Int)(cl:Int)(ce:Int)(so:List UInt8)(j1:D)(j2:D)(j3:D)(j4:D)(d:D)(e:D):Option (Ex×St):=some (.exit 2,⟨[J,.one (.c (.ptr 0 0 0)),J,J,J,J,J,J,J,J,J,J,J,J,J,J,J,J,J,J,J,J,J,J,J,J,J,J,J,J,J,J,J,J,J,J,J,J,J,J,J,J,J,J,J,J,J,J,J],c7 [some (.var [.d j1,.d j2,.d (.v (.int .i64 (cb))),.d (.v (.int .i64 (cl))),.d (.v (.int .i64 (ce))),.d j3,.d j4,.d (.v (.string (B (so)))),.d d,.d e])],1,0⟩)
abbrev c8d(cb:Int)(cl:Int)(ce:Int)(so:List UInt8)(j1:D)(j2:D)(j3:D)(j4:D)(d:D)(e:D):Option (Ex×St):=some (.ret,⟨[J,.one (.c (.ptr 0 0 0)),.one (.c (.d (.v (.bool (false))))),J,J,J,J,J,J,J,J,J,J,J,J,J,J,J,J,J,J,J,J,J,J,J,J,J,J,J,J,J,J,J,J,J,J,J,J,J,J,J,J,J,J,J,J,J,J],c7 [some (.var [.d j1,.d j2,.d (.v (.int .i64 (cb))),.d (.v (.int .i64 (cl))),.d (.v (.int .i64 (ce))),.d j3,.d j4,.d (.v (.string (B (so)))),.d d,.d e])],1,0⟩)
theorem c0w(cb cl ce:Int)(so:List UInt8)(j1 j2 j3 j4 d:D)(R:List (List D))(n:Int)(hn:n<=1000000):a6m cb cl ce so j1 j2 j3 j4 d (.sl 1 R) n n=b8y cb cl ce so j1 j2 j3 j4 d (.sl 1 R):=by
 exact lp V19
theorem d5n(cb cl ce:Int)(so:List UInt8)(j1 j2 j3 j4 d:D):a6m cb cl ce so j1 j2 j3 j4 d (.v (.slice none 0 0)) 0 0=b8y cb cl ce so j1 j2 j3 j4 d (.v (.slice none 0 0)):=by
 exact lp V19
theorem e5e(cb cl ce:Int)(so:List UInt8)(j1 j2 j3 j4 d:D)(x:List UInt8)(R:List (List D))(i:Int)(n:Int)(b:0<=i∧i<n∧n<=1000000)(hg:R[i.toNat]?=some [.v (.string (B (x)))])(hx:x.length<=9000000000):a6m cb cl ce so j1 j2 j3 j4 d (.sl 1 R) i n=if(decide (x.length<=200))=true then a6m cb cl ce so j1 j2 j3 j4 d (.sl 1 R) (i+1) n else c8d cb cl ce so j1 j2 j3 j4 d (.sl 1 R):=by
 by_cases g1:x.length<=200
 all_goals
  simp only[g1,decide_true,decide_false,Bool.and_true,Bool.true_and,Bool.and_false,Bool.false_and,if_true,if_false,Bool.false_eq_true]
  exact lp V19
abbrev a6n(cb:Int)(cl:Int)(ce:Int)(so:List UInt8)(j1:D)(j2:D)(j3:D)(j4:D)(d:D)(e:D)(i:Int):Option (Ex×St):=g8 Tryz.prog T1 (c6 Tryz.prog T1 L1) 33 (cq Tryz.f33 [0,0,1,0,1,1]) ⟨[J,.one (.c (.ptr 0 0 0)),J,J,.one (.c (.d (.v (.int .i64 (i))))),J,J,J,J,J,J,J,J,J,J,J,J,J,J,J,J,J,J,J,J,J,J,J,J,J,J,J,J,J,J,J,J,J,J,J,J,J,J,J,J,J,J,J,J,J,J,J,J],c7 [some (.var [.d j1,.d j2,.d (.v (.int .i64 (cb))),.d (.v (.int .i64 (cl))),.d (.v (.int .i64 (ce))),.d j3,.d j4,.d (.v (.string (B (so)))),.d d,.d e])],1,0⟩
abbrev b8z(cb:Int)(cl:Int)(ce:Int)(so:List UInt8)(j1:D)(j2:D)(j3:D)(j4:D)(d:D)(e:D):Option (Ex×St):=some (.exit 2,⟨[J,.one (.c (.ptr 0 0 0)),J,J,J,J,J,J,J,J,J,J,J,J,J,J,J,J,J,J,J,J,J,J,J,J,J,J,J,J,J,J,J,J,J,J,J,J,J,J,J,J,J,J,J,J,J,J,J,J,J,J,J],c7 [some (.var [.d j1,.d j2,.d (.v (.int .i64 (cb))),.d (.v (.int .i64 (cl))),.d (.v (.int .i64 (ce))),.d j3,.d j4,.d (.v (.string (B (so)))),.d d,.d e])],1,0⟩)
abbrev c8e(cb:Int)(cl:Int)(ce:Int)(so:List UInt8)(j1:D)(j2:D)(j3:D)(j4:D)(d:D)(e:D):Option (Ex×St):=some (.ret,⟨[J,.one (.c (.ptr 0 0 0)),.one (.c (.d (.v (.bool (false))))),J,J,J,J,J,J,J,J,J,J,J,J,J,J,J,J,J,J,J,J,J,J,J,J,J,J,J,J,J,J,J,J,J,J,J,J,J,J,J,J,J,J,J,J,J,J,J,J,J,J],c7 [some (.var [.d j1,.d j2,.d (.v (.int .i64 (cb))),.d (.v (.int .i64 (cl))),.d (.v (.int .i64 (ce))),.d j3,.d j4,.d (.v (.string (B (so)))),.d d,.d e])],1,0⟩)
theorem c0x(cb cl ce:Int)(so:List UInt8)(j1 j2 j3 j4 d:D)(R:List (List D))(hn:R.length<=1000000):a6n cb cl ce so j1 j2 j3 j4 d (.sl 1 R) (R.length:Int)=b8z cb cl ce so j1 j2 j3 j4 d (.sl 1 R):=by
 exact lp V33
theorem d5o(cb cl ce:Int)(so:List UInt8)(j1 j2 j3 j4 d:D):a6n cb cl ce so j1 j2 j3 j4 d (.v (.slice none 0 0)) 0=b8z cb cl ce so j1 j2 j3 j4 d (.v (.slice none 0 0)):=by
 exact lp V33
theorem e5f(cb cl ce:Int)(so:List UInt8)(j1 j2 j3 j4 d:D)(x:List UInt8)(R:List (List D))(i:Int)(b:0<=i∧i<(R.length:Int)∧R.length<=1000000)(hg:R[i.toNat]?=some [.v (.string (B (x)))])(hx:x.length<=9000000000):a6n cb cl ce so j1 j2 j3 j4 d (.sl 1 R) i=if(decide (x.length<=200))=true then a6n cb cl ce so j1 j2 j3 j4 d (.sl 1 R) (i+1)else c8e cb cl ce so j1 j2 j3 j4 d (.sl 1 R):=by
 by_cases g1:x.length<=200
 all_goals
  simp only[g1,decide_true,decide_false,Bool.and_true,Bool.true_and,Bool.and_false,Bool.false_and,if_true,if_false,Bool.false_eq_true]
  exact lp V33
end
end Go.Vsi
