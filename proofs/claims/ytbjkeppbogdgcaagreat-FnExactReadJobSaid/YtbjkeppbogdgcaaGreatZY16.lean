/- What the functions of the program, of the reference and of the law do (a part of it). -/
import Derived.Test.YtbjkeppbogdgcaaGreatZY13
namespace Go.Vsi
open Go.Proofs
noncomputable section
set_option maxRecDepth 100000
set_option maxHeartbeats 4000000
set_option linter.unusedSimpArgs false
set_option linter.unusedVariables false
attribute [local go_sem ↓] v6
abbrev lpP(d:D)(cb cl ce f e i:Int)(N:Nat)(R0 R:List (List D)):Option (Ex×St):=g8 Tryz.prog T1 (c6 Tryz.prog T1 L1) 59 (cq Tryz.f59 [0,0,1,0,1,1,1,1]) ⟨[J,J,.one (.c (.d (.v (.int .i64 (e))))),.one (.c (.ptr 0 0 0)),.one (.c (.ptr 1 0 0)),J,J,.one (.c (.ptr 2 0 0)),.one (.c (.fn 69 [2,1])),.one (.c (.d (.v (.int .i64 (i))))),J,J,J,J,J,J,J,J,J,J,J,J,J,J,J,J,J,J,J,J,J,J,J,J,J,J,J,J,J,J,J,J,J,J,J,J,J,J,J,J,J,J,J,J,J,J,J,J,J,J,J,J,J,J,J,J,J,J,J,J,J,J,J,J,J,J,J,J,J,J,J,J,J,J,J,J,J,J,J,J,J,J,J,J,J,J,J,J],c7 [some (.var [.d d,.d (.sl 2 R0),.d (.v (.int .i64 (cb))),.d (.v (.int .i64 (cl))),.d (.v (.int .i64 (ce)))]),some (.var [.d (.v (.int .i64 (f)))]),some (.var [.arr 3 0 N]),some (.arr 1 R)],4,0⟩
abbrev reP(f e:Int)(N:Nat)(R:List (List D)):Option (Ex×St):=some (.ret,⟨[J,J,.one (.c (.d (.v (.int .i64 (e))))),J,.one (.c (.ptr 0 0 0)),J,.one (.c (.d (.v (.bool (false))))),.one (.c (.ptr 1 0 0)),J,J,J,J,J,J,J,J,J,J,J,J,J,J,J,J,J,J,J,J,J,J,J,J,J,J,J,J,J,J,J,J,J,J,J,J,J,J,J,J,J,J,J,J,J,J,J,J,J,J,J,J,J,J,J,J,J,J,J,J,J,J,J,J,J,J,J,J,J,J,J,J,J,J,J,J,J,J,J,J,J,J,J,J,J,J,J,J,J,J],c7 [some (.var [.d (.v (.int .i64 (f)))]),some (.var [.arr 2 0 N]),some (.arr 1 R)],3,0⟩)
theorem e9z(d:D)(cb cl ce f e i op a t u v:Int)(N:Nat)(R0 R R1 R2:List (List D))(b0:0<=f∧f<=1000)(b1:f<=i∧i<e∧e<=1000)(b2:e-f<(N:Int)∧(N:Int)<=2000)(hg0:R0[i.toNat]?=some [.v (.int .i64 (op)),.v (.int .i64 (a))])(hg:R[(i-f).toNat]?=some [.v (.int .i64 (v))])(hA:c6 Tryz.prog T1 L1 70 [.agg [.d d,.d (.sl 2 R0),.d (.v (.int .i64 (cb))),.d (.v (.int .i64 (cl))),.d (.v (.int .i64 (ce)))],.c (.d (.v (.int .i64 (i)))),.c (.d (.v (.int .i64 (e))))] []=some (.one (.c (.d (.v (.bool (false))))),[]))(hT:c6 Tryz.prog T1 L1 71 [.agg [.d (.v (.int .i64 (op))),.d (.v (.int .i64 (a)))]] []=some (.one (.c (.d (.v (.int .i64 (t))))),[]))(hP:c6 Tryz.prog T1 L1 72 [.agg [.d (.v (.int .i64 (op))),.d (.v (.int .i64 (a)))]] []=some (.one (.c (.d (.v (.int .i64 (u))))),[]))(bt:0<=t∧t<=255)(bu:0<=u∧u<=1)(bv: -1<=v∧v<=20):lpP d cb cl ce f e i N R0 R=reP f e N R:=by
 have h1:0<=i-f:=by omega
 exact lp V59
theorem f0a(d:D)(cb cl ce f e i op a t u v:Int)(N:Nat)(R0 R R1 R2:List (List D))(b0:0<=f∧f<=1000)(b1:f<=i∧i<e∧e<=1000)(b2:e-f<(N:Int)∧(N:Int)<=2000)(hg0:R0[i.toNat]?=some [.v (.int .i64 (op)),.v (.int .i64 (a))])(hg:R[(i-f).toNat]?=some [.v (.int .i64 (v))])(hA:c6 Tryz.prog T1 L1 70 [.agg [.d d,.d (.sl 2 R0),.d (.v (.int .i64 (cb))),.d (.v (.int .i64 (cl))),.d (.v (.int .i64 (ce)))],.c (.d (.v (.int .i64 (i)))),.c (.d (.v (.int .i64 (e))))] []=some (.one (.c (.d (.v (.bool (true))))),[]))(hT:c6 Tryz.prog T1 L1 71 [.agg [.d (.v (.int .i64 (op))),.d (.v (.int .i64 (a)))]] []=some (.one (.c (.d (.v (.int .i64 (t))))),[]))(hP:c6 Tryz.prog T1 L1 72 [.agg [.d (.v (.int .i64 (op))),.d (.v (.int .i64 (a)))]] []=some (.one (.c (.d (.v (.int .i64 (u))))),[]))(bt:0<=t∧t<=255)(bu:0<=u∧u<=1)(bv: -1<=v∧v<=20)(hv:v<0):lpP d cb cl ce f e i N R0 R=lpP d cb cl ce f e (i+1) N R0 R:=by
 have h1:0<=i-f:=by omega
 exact lp V59
theorem f0b(d:D)(cb cl ce f e i op a t u v:Int)(N:Nat)(R0 R R1 R2:List (List D))(b0:0<=f∧f<=1000)(b1:f<=i∧i<e∧e<=1000)(b2:e-f<(N:Int)∧(N:Int)<=2000)(hg0:R0[i.toNat]?=some [.v (.int .i64 (op)),.v (.int .i64 (a))])(hg:R[(i-f).toNat]?=some [.v (.int .i64 (v))])(hA:c6 Tryz.prog T1 L1 70 [.agg [.d d,.d (.sl 2 R0),.d (.v (.int .i64 (cb))),.d (.v (.int .i64 (cl))),.d (.v (.int .i64 (ce)))],.c (.d (.v (.int .i64 (i)))),.c (.d (.v (.int .i64 (e))))] []=some (.one (.c (.d (.v (.bool (true))))),[]))(hT:c6 Tryz.prog T1 L1 71 [.agg [.d (.v (.int .i64 (op))),.d (.v (.int .i64 (a)))]] []=some (.one (.c (.d (.v (.int .i64 (t))))),[]))(hP:c6 Tryz.prog T1 L1 72 [.agg [.d (.v (.int .i64 (op))),.d (.v (.int .i64 (a)))]] []=some (.one (.c (.d (.v (.int .i64 (u))))),[]))(bt:0<=t∧t<=255)(bu:0<=u∧u<=1)(bv: -1<=v∧v<=20)(hv:0<=v)(hl:v<t):lpP d cb cl ce f e i N R0 R=reP f e N R:=by
 have h1:0<=i-f:=by omega
 exact lp V59
theorem f5r(d:D)(cb cl ce f e i op a t u v:Int)(N:Nat)(R0 R R1 R2:List (List D))(b0:0<=f∧f<=1000)(b1:f<=i∧i<e∧e<=1000)(b2:e-f<(N:Int)∧(N:Int)<=2000)(hg0:R0[i.toNat]?=some [.v (.int .i64 (op)),.v (.int .i64 (a))])(hg:R[(i-f).toNat]?=some [.v (.int .i64 (v))])(hA:c6 Tryz.prog T1 L1 70 [.agg [.d d,.d (.sl 2 R0),.d (.v (.int .i64 (cb))),.d (.v (.int .i64 (cl))),.d (.v (.int .i64 (ce)))],.c (.d (.v (.int .i64 (i)))),.c (.d (.v (.int .i64 (e))))] []=some (.one (.c (.d (.v (.bool (true))))),[]))(hT:c6 Tryz.prog T1 L1 71 [.agg [.d (.v (.int .i64 (op))),.d (.v (.int .i64 (a)))]] []=some (.one (.c (.d (.v (.int .i64 (t))))),[]))(hP:c6 Tryz.prog T1 L1 72 [.agg [.d (.v (.int .i64 (op))),.d (.v (.int .i64 (a)))]] []=some (.one (.c (.d (.v (.int .i64 (u))))),[]))(bt:0<=t∧t<=255)(bu:0<=u∧u<=1)(bv: -1<=v∧v<=20)(hv:0<=v)(hl:t<=v)(e1:f8 op 23=true)(e2:f8 op 22=false)(e3:f8 op 21=false):lpP d cb cl ce f e i N R0 R=lpP d cb cl ce f e (i+1) N R0 R:=by
 have h1:0<=i-f:=by omega
 exact lp V59
theorem f5s(d:D)(cb cl ce f e i op a t u v:Int)(N:Nat)(R0 R R1 R2:List (List D))(b0:0<=f∧f<=1000)(b1:f<=i∧i<e∧e<=1000)(b2:e-f<(N:Int)∧(N:Int)<=2000)(hg0:R0[i.toNat]?=some [.v (.int .i64 (op)),.v (.int .i64 (a))])(hg:R[(i-f).toNat]?=some [.v (.int .i64 (v))])(hA:c6 Tryz.prog T1 L1 70 [.agg [.d d,.d (.sl 2 R0),.d (.v (.int .i64 (cb))),.d (.v (.int .i64 (cl))),.d (.v (.int .i64 (ce)))],.c (.d (.v (.int .i64 (i)))),.c (.d (.v (.int .i64 (e))))] []=some (.one (.c (.d (.v (.bool (true))))),[]))(hT:c6 Tryz.prog T1 L1 71 [.agg [.d (.v (.int .i64 (op))),.d (.v (.int .i64 (a)))]] []=some (.one (.c (.d (.v (.int .i64 (t))))),[]))(hP:c6 Tryz.prog T1 L1 72 [.agg [.d (.v (.int .i64 (op))),.d (.v (.int .i64 (a)))]] []=some (.one (.c (.d (.v (.int .i64 (u))))),[]))(bt:0<=t∧t<=255)(bu:0<=u∧u<=1)(bv: -1<=v∧v<=20)(hv:0<=v)(hl:t<=v)(e1:f8 op 23=false)(e2:f8 op 22=true)(e3:f8 op 21=false)(c2:c6 Tryz.prog T1 L1 69 [.c (.d (.v (.int .i64 (a)))),.c (.d (.v (.int .i64 (v-t+u)))),.c (.ptr 0 0 0),.c (.ptr 2 0 0)] [some (.var [.arr 1 0 N]),some (.arr 1 R),some (.var [.d (.v (.int .i64 (f)))])]=some (.one (.c (.d (.v (.bool (false))))),[some (.var [.arr 1 0 N]),some (.arr 1 R2),some (.var [.d (.v (.int .i64 (f)))])])):lpP d cb cl ce f e i N R0 R=reP f e N R2:=by
 have h1:0<=i-f:=by omega
 exact lp V59
theorem f5t(d:D)(cb cl ce f e i op a t u v:Int)(N:Nat)(R0 R R1 R2:List (List D))(b0:0<=f∧f<=1000)(b1:f<=i∧i<e∧e<=1000)(b2:e-f<(N:Int)∧(N:Int)<=2000)(hg0:R0[i.toNat]?=some [.v (.int .i64 (op)),.v (.int .i64 (a))])(hg:R[(i-f).toNat]?=some [.v (.int .i64 (v))])(hA:c6 Tryz.prog T1 L1 70 [.agg [.d d,.d (.sl 2 R0),.d (.v (.int .i64 (cb))),.d (.v (.int .i64 (cl))),.d (.v (.int .i64 (ce)))],.c (.d (.v (.int .i64 (i)))),.c (.d (.v (.int .i64 (e))))] []=some (.one (.c (.d (.v (.bool (true))))),[]))(hT:c6 Tryz.prog T1 L1 71 [.agg [.d (.v (.int .i64 (op))),.d (.v (.int .i64 (a)))]] []=some (.one (.c (.d (.v (.int .i64 (t))))),[]))(hP:c6 Tryz.prog T1 L1 72 [.agg [.d (.v (.int .i64 (op))),.d (.v (.int .i64 (a)))]] []=some (.one (.c (.d (.v (.int .i64 (u))))),[]))(bt:0<=t∧t<=255)(bu:0<=u∧u<=1)(bv: -1<=v∧v<=20)(hv:0<=v)(hl:t<=v)(e1:f8 op 23=false)(e2:f8 op 22=true)(e3:f8 op 21=false)(c2:c6 Tryz.prog T1 L1 69 [.c (.d (.v (.int .i64 (a)))),.c (.d (.v (.int .i64 (v-t+u)))),.c (.ptr 0 0 0),.c (.ptr 2 0 0)] [some (.var [.arr 1 0 N]),some (.arr 1 R),some (.var [.d (.v (.int .i64 (f)))])]=some (.one (.c (.d (.v (.bool (true))))),[some (.var [.arr 1 0 N]),some (.arr 1 R2),some (.var [.d (.v (.int .i64 (f)))])])):lpP d cb cl ce f e i N R0 R=lpP d cb cl ce f e (i+1) N R0 R2:=by
 have h1:0<=i-f:=by omega
 exact lp V59
theorem f5u(d:D)(cb cl ce f e i op a t u v:Int)(N:Nat)(R0 R R1 R2:List (List D))(b0:0<=f∧f<=1000)(b1:f<=i∧i<e∧e<=1000)(b2:e-f<(N:Int)∧(N:Int)<=2000)(hg0:R0[i.toNat]?=some [.v (.int .i64 (op)),.v (.int .i64 (a))])(hg:R[(i-f).toNat]?=some [.v (.int .i64 (v))])(hA:c6 Tryz.prog T1 L1 70 [.agg [.d d,.d (.sl 2 R0),.d (.v (.int .i64 (cb))),.d (.v (.int .i64 (cl))),.d (.v (.int .i64 (ce)))],.c (.d (.v (.int .i64 (i)))),.c (.d (.v (.int .i64 (e))))] []=some (.one (.c (.d (.v (.bool (true))))),[]))(hT:c6 Tryz.prog T1 L1 71 [.agg [.d (.v (.int .i64 (op))),.d (.v (.int .i64 (a)))]] []=some (.one (.c (.d (.v (.int .i64 (t))))),[]))(hP:c6 Tryz.prog T1 L1 72 [.agg [.d (.v (.int .i64 (op))),.d (.v (.int .i64 (a)))]] []=some (.one (.c (.d (.v (.int .i64 (u))))),[]))(bt:0<=t∧t<=255)(bu:0<=u∧u<=1)(bv: -1<=v∧v<=20)(hv:0<=v)(hl:t<=v)(e1:f8 op 23=false)(e2:f8 op 22=false)(e3:f8 op 21=false)(c1:c6 Tryz.prog T1 L1 69 [.c (.d (.v (.int .i64 (i+1)))),.c (.d (.v (.int .i64 (v-t+u)))),.c (.ptr 0 0 0),.c (.ptr 2 0 0)] [some (.var [.arr 1 0 N]),some (.arr 1 R),some (.var [.d (.v (.int .i64 (f)))])]=some (.one (.c (.d (.v (.bool (false))))),[some (.var [.arr 1 0 N]),some (.arr 1 R1),some (.var [.d (.v (.int .i64 (f)))])])):lpP d cb cl ce f e i N R0 R=reP f e N R1:=by
 have h1:0<=i-f:=by omega
 exact lp V59
theorem f5v(d:D)(cb cl ce f e i op a t u v:Int)(N:Nat)(R0 R R1 R2:List (List D))(b0:0<=f∧f<=1000)(b1:f<=i∧i<e∧e<=1000)(b2:e-f<(N:Int)∧(N:Int)<=2000)(hg0:R0[i.toNat]?=some [.v (.int .i64 (op)),.v (.int .i64 (a))])(hg:R[(i-f).toNat]?=some [.v (.int .i64 (v))])(hA:c6 Tryz.prog T1 L1 70 [.agg [.d d,.d (.sl 2 R0),.d (.v (.int .i64 (cb))),.d (.v (.int .i64 (cl))),.d (.v (.int .i64 (ce)))],.c (.d (.v (.int .i64 (i)))),.c (.d (.v (.int .i64 (e))))] []=some (.one (.c (.d (.v (.bool (true))))),[]))(hT:c6 Tryz.prog T1 L1 71 [.agg [.d (.v (.int .i64 (op))),.d (.v (.int .i64 (a)))]] []=some (.one (.c (.d (.v (.int .i64 (t))))),[]))(hP:c6 Tryz.prog T1 L1 72 [.agg [.d (.v (.int .i64 (op))),.d (.v (.int .i64 (a)))]] []=some (.one (.c (.d (.v (.int .i64 (u))))),[]))(bt:0<=t∧t<=255)(bu:0<=u∧u<=1)(bv: -1<=v∧v<=20)(hv:0<=v)(hl:t<=v)(e1:f8 op 23=false)(e2:f8 op 22=false)(e3:f8 op 21=false)(c1:c6 Tryz.prog T1 L1 69 [.c (.d (.v (.int .i64 (i+1)))),.c (.d (.v (.int .i64 (v-t+u)))),.c (.ptr 0 0 0),.c (.ptr 2 0 0)] [some (.var [.arr 1 0 N]),some (.arr 1 R),some (.var [.d (.v (.int .i64 (f)))])]=some (.one (.c (.d (.v (.bool (true))))),[some (.var [.arr 1 0 N]),some (.arr 1 R1),some (.var [.d (.v (.int .i64 (f)))])])):lpP d cb cl ce f e i N R0 R=lpP d cb cl ce f e (i+1) N R0 R1:=by
 have h1:0<=i-f:=by omega
 exact lp V59
theorem f5w(d:D)(cb cl ce f e i op a t u v:Int)(N:Nat)(R0 R R1 R2:List (List D))(b0:0<=f∧f<=1000)(b1:f<=i∧i<e∧e<=1000)(b2:e-f<(N:Int)∧(N:Int)<=2000)(hg0:R0[i.toNat]?=some [.v (.int .i64 (op)),.v (.int .i64 (a))])(hg:R[(i-f).toNat]?=some [.v (.int .i64 (v))])(hA:c6 Tryz.prog T1 L1 70 [.agg [.d d,.d (.sl 2 R0),.d (.v (.int .i64 (cb))),.d (.v (.int .i64 (cl))),.d (.v (.int .i64 (ce)))],.c (.d (.v (.int .i64 (i)))),.c (.d (.v (.int .i64 (e))))] []=some (.one (.c (.d (.v (.bool (true))))),[]))(hT:c6 Tryz.prog T1 L1 71 [.agg [.d (.v (.int .i64 (op))),.d (.v (.int .i64 (a)))]] []=some (.one (.c (.d (.v (.int .i64 (t))))),[]))(hP:c6 Tryz.prog T1 L1 72 [.agg [.d (.v (.int .i64 (op))),.d (.v (.int .i64 (a)))]] []=some (.one (.c (.d (.v (.int .i64 (u))))),[]))(bt:0<=t∧t<=255)(bu:0<=u∧u<=1)(bv: -1<=v∧v<=20)(hv:0<=v)(hl:t<=v)(e1:f8 op 23=false)(e2:f8 op 22=false)(e3:f8 op 21=true)(c1:c6 Tryz.prog T1 L1 69 [.c (.d (.v (.int .i64 (i+1)))),.c (.d (.v (.int .i64 (v-t+u)))),.c (.ptr 0 0 0),.c (.ptr 2 0 0)] [some (.var [.arr 1 0 N]),some (.arr 1 R),some (.var [.d (.v (.int .i64 (f)))])]=some (.one (.c (.d (.v (.bool (false))))),[some (.var [.arr 1 0 N]),some (.arr 1 R1),some (.var [.d (.v (.int .i64 (f)))])])):lpP d cb cl ce f e i N R0 R=reP f e N R1:=by
 have h1:0<=i-f:=by omega
 exact lp V59
theorem f5x(d:D)(cb cl ce f e i op a t u v:Int)(N:Nat)(R0 R R1 R2:List (List D))(b0:0<=f∧f<=1000)(b1:f<=i∧i<e∧e<=1000)(b2:e-f<(N:Int)∧(N:Int)<=2000)(hg0:R0[i.toNat]?=some [.v (.int .i64 (op)),.v (.int .i64 (a))])(hg:R[(i-f).toNat]?=some [.v (.int .i64 (v))])(hA:c6 Tryz.prog T1 L1 70 [.agg [.d d,.d (.sl 2 R0),.d (.v (.int .i64 (cb))),.d (.v (.int .i64 (cl))),.d (.v (.int .i64 (ce)))],.c (.d (.v (.int .i64 (i)))),.c (.d (.v (.int .i64 (e))))] []=some (.one (.c (.d (.v (.bool (true))))),[]))(hT:c6 Tryz.prog T1 L1 71 [.agg [.d (.v (.int .i64 (op))),.d (.v (.int .i64 (a)))]] []=some (.one (.c (.d (.v (.int .i64 (t))))),[]))(hP:c6 Tryz.prog T1 L1 72 [.agg [.d (.v (.int .i64 (op))),.d (.v (.int .i64 (a)))]] []=some (.one (.c (.d (.v (.int .i64 (u))))),[]))(bt:0<=t∧t<=255)(bu:0<=u∧u<=1)(bv: -1<=v∧v<=20)(hv:0<=v)(hl:t<=v)(e1:f8 op 23=false)(e2:f8 op 22=false)(e3:f8 op 21=true)(c1:c6 Tryz.prog T1 L1 69 [.c (.d (.v (.int .i64 (i+1)))),.c (.d (.v (.int .i64 (v-t+u)))),.c (.ptr 0 0 0),.c (.ptr 2 0 0)] [some (.var [.arr 1 0 N]),some (.arr 1 R),some (.var [.d (.v (.int .i64 (f)))])]=some (.one (.c (.d (.v (.bool (true))))),[some (.var [.arr 1 0 N]),some (.arr 1 R1),some (.var [.d (.v (.int .i64 (f)))])]))(c2:c6 Tryz.prog T1 L1 69 [.c (.d (.v (.int .i64 (a)))),.c (.d (.v (.int .i64 (v-t+u)))),.c (.ptr 0 0 0),.c (.ptr 2 0 0)] [some (.var [.arr 1 0 N]),some (.arr 1 R1),some (.var [.d (.v (.int .i64 (f)))])]=some (.one (.c (.d (.v (.bool (false))))),[some (.var [.arr 1 0 N]),some (.arr 1 R2),some (.var [.d (.v (.int .i64 (f)))])])):lpP d cb cl ce f e i N R0 R=reP f e N R2:=by
 have h1:0<=i-f:=by omega
 exact lp V59
theorem f5y(d:D)(cb cl ce f e i op a t u v:Int)(N:Nat)(R0 R R1 R2:List (List D))(b0:0<=f∧f<=1000)(b1:f<=i∧i<e∧e<=1000)(b2:e-f<(N:Int)∧(N:Int)<=2000)(hg0:R0[i.toNat]?=some [.v (.int .i64 (op)),.v (.int .i64 (a))])(hg:R[(i-f).toNat]?=some [.v (.int .i64 (v))])(hA:c6 Tryz.prog T1 L1 70 [.agg [.d d,.d (.sl 2 R0),.d (.v (.int .i64 (cb))),.d (.v (.int .i64 (cl))),.d (.v (.int .i64 (ce)))],.c (.d (.v (.int .i64 (i)))),.c (.d (.v (.int .i64 (e))))] []=some (.one (.c (.d (.v (.bool (true))))),[]))(hT:c6 Tryz.prog T1 L1 71 [.agg [.d (.v (.int .i64 (op))),.d (.v (.int .i64 (a)))]] []=some (.one (.c (.d (.v (.int .i64 (t))))),[]))(hP:c6 Tryz.prog T1 L1 72 [.agg [.d (.v (.int .i64 (op))),.d (.v (.int .i64 (a)))]] []=some (.one (.c (.d (.v (.int .i64 (u))))),[]))(bt:0<=t∧t<=255)(bu:0<=u∧u<=1)(bv: -1<=v∧v<=20)(hv:0<=v)(hl:t<=v)(e1:f8 op 23=false)(e2:f8 op 22=false)(e3:f8 op 21=true)(c1:c6 Tryz.prog T1 L1 69 [.c (.d (.v (.int .i64 (i+1)))),.c (.d (.v (.int .i64 (v-t+u)))),.c (.ptr 0 0 0),.c (.ptr 2 0 0)] [some (.var [.arr 1 0 N]),some (.arr 1 R),some (.var [.d (.v (.int .i64 (f)))])]=some (.one (.c (.d (.v (.bool (true))))),[some (.var [.arr 1 0 N]),some (.arr 1 R1),some (.var [.d (.v (.int .i64 (f)))])]))(c2:c6 Tryz.prog T1 L1 69 [.c (.d (.v (.int .i64 (a)))),.c (.d (.v (.int .i64 (v-t+u)))),.c (.ptr 0 0 0),.c (.ptr 2 0 0)] [some (.var [.arr 1 0 N]),some (.arr 1 R1),some (.var [.d (.v (.int .i64 (f)))])]=some (.one (.c (.d (.v (.bool (true))))),[some (.var [.arr 1 0 N]),some (.arr 1 R2),some (.var [.d (.v (.int .i64 (f)))])])):lpP d cb cl ce f e i N R0 R=lpP d cb cl ce f e (i+1) N R0 R2:=by
 have h1:0<=i-f:=by omega
 exact lp V59
end
end Go.Vsi
namespace Go.Vsi
open Go.Proofs
noncomputable section
set_option maxRecDepth 100000
set_option maxHeartbeats 4000000
set_option linter.unusedSimpArgs false
set_option linter.unusedVariables false
attribute [local go_sem ↓] v6
abbrev lpA(c:n8)(p q:Bool)(f e i:Int)(N:Nat)(H:List Int):Option (Ex×St):=g8 Tryz.prog T1 (c6 Tryz.prog T1 L1) 59 (cq Tryz.f59 [0,0,1,0,1,1,1,1]) (stA c p q f e i N H)
theorem d5f(rd:List UInt8->Bool)(hR:C5 78 rd)(c:n8)(p q:Bool)(f e:Int)(N:Nat)(hp:d1r c f e N)(i:Int)(H:List Int)(hl:H.length=N)(ho:okH H)(h1:f<=i)(h2:i<e):
  match S4 (arI rd c.Texts e) c.List f i H with
  |some H'=>H'.length=N∧okH H'∧lpA c p q f e i N H=lpA c p q f e (i+1) N H'
  |none=> ∃H',lpA c p q f e i N H=some (.ret,stR f e N H'):=by
 obtain⟨b0,b1,b2,b3,n1,n2,tx,tl,li⟩:=hp
 have hne:g9 c.List≠[]:=fun h=>by
  have:=congrArg List.length h
  rw[k8]at this
  simp at this
  rw[this]at b2
  simp at b2
  omega
 have hd:=o7 q 2 (g9 c.List) hne
 have hg0:=b5r c.List i.toNat (by omega)
 have hg:=a4d H (i-f).toNat (by omega)
 have hx:c.List.getD i.toNat ⟨0,0⟩∈c.List:=by
  rw[List.getD_eq_getElem?_getD,List.getElem?_eq_getElem (by omega)]
  exact List.getElem_mem _
 have hli:=li _ hx
 have hA:=d1e rd hR c p _ _ i e tx tl (by omega) hg0
 have hT:=d1d (c.List.getD i.toNat ⟨0,0⟩).Op (c.List.getD i.toNat ⟨0,0⟩).Arg
 have hP:=d5c (c.List.getD i.toNat ⟨0,0⟩).Op (c.List.getD i.toNat ⟨0,0⟩).Arg
 have hj:=b2p rd c.Texts (c.List.getD i.toNat ⟨0,0⟩).Op (c.List.getD i.toNat ⟨0,0⟩).Arg i e
 have bt:=e1j (c.List.getD i.toNat ⟨0,0⟩).Op (c.List.getD i.toNat ⟨0,0⟩).Arg hli
 have bu:=d1q (c.List.getD i.toNat ⟨0,0⟩).Op
 have bv:=a9x ho (i-f).toNat
 have hcm: ∀(G:List Int)(to n:Int),G.length=N->f<=to->to<=e->c6 Tryz.prog T1 L1 69 [.c (.d (.v (.int .i64 (to)))),.c (.d (.v (.int .i64 (n)))),.c (.ptr 0 0 0),.c (.ptr 2 0 0)] [some (.var [.arr 1 0 N]),some (.arr 1 (rI G)),some (.var [.d (.v (.int .i64 (f)))])]=some (.one (.c (.d (.v (.bool (cmB G (to-f).toNat n&&decide (n<=20)))))),[some (.var [.arr 1 0 N]),some (.arr 1 (rI (G.set (to-f).toNat n))),some (.var [.d (.v (.int .i64 (f)))])]):=fun G to n hG t1 t2=>by
  have:=e4v G f to n (by omega) (by omega) (by omega)
  rwa[hG]at this
 unfold S4 arI lpA stA
 rw[hd]
 unfold stR
 generalize (c.List.getD i.toNat ⟨0,0⟩).Op=op at*
 generalize (c.List.getD i.toNat ⟨0,0⟩).Arg=a at*
 have k0:0<=f∧f<=1000:=by omega
 have k1:f<=i∧i<e∧e<=1000:=by omega
 have k2:e-f<(N:Int)∧(N:Int)<=2000:=by omega
 generalize a9b rd c.Texts op a i e=A at hA hj⊢
 cases A with
 |false=>
  rw[if_pos rfl]
  exact⟨H,e9z _ _ _ _ f e i op a _ _ _ N _ _ [] [] k0 k1 k2 hg0 hg hA hT hP bt bu bv⟩
 |true=>
  rw[if_neg (by simp)]
  by_cases hv:H.getD (i-f).toNat 0<0
  ·rw[if_pos hv]
   exact⟨hl,ho,f0a _ _ _ _ f e i op a _ _ _ N _ _ [] [] k0 k1 k2 hg0 hg hA hT hP bt bu bv hv⟩
  ·rw[if_neg hv]
   by_cases ht:H.getD (i-f).toNat 0<tk op a
   ·rw[if_pos ht]
    exact⟨H,f0b _ _ _ _ f e i op a _ _ _ N _ _ [] [] k0 k1 k2 hg0 hg hA hT hP bt bu bv (by omega) ht⟩
   ·rw[if_neg ht]
    have v0:0<=H.getD (i-f).toNat 0:=by omega
    have v1:tk op a<=H.getD (i-f).toNat 0:=by omega
    have hn0:0<=H.getD (i-f).toNat 0-tk op a+pt op:=by omega
    unfold d1p
    by_cases e1:f8 op 23=true
    ·rw[if_pos e1]
     have e2:f8 op 22=false:=by rw[X5]at e1;subst e1;rfl
     have e3:f8 op 21=false:=by rw[X5]at e1;subst e1;rfl
     exact⟨hl,ho,f5r _ _ _ _ f e i op a _ _ _ N _ _ [] [] k0 k1 k2 hg0 hg hA hT hP bt bu bv v0 v1 e1 e2 e3⟩
    ·rw[if_neg e1]
     rw[Bool.not_eq_true]at e1
     by_cases e2:f8 op 22=true
     ·rw[if_pos e2]
      have e3:f8 op 21=false:=by rw[X5]at e2;subst e2;rfl
      obtain⟨j1,j2⟩:=hj rfl (Or.inr e2)
      have c2:=hcm H a (H.getD (i-f).toNat 0-tk op a+pt op) hl (by omega) j2
      unfold b5q
      cases hb:(cmB H (a-f).toNat (H.getD (i-f).toNat 0-tk op a+pt op)&&decide (H.getD (i-f).toNat 0-tk op a+pt op<=20))with
      |false=>
       rw[if_neg (by simp)]
       rw[hb]at c2
       exact⟨_,f5s _ _ _ _ f e i op a _ _ _ N _ _ [] _ k0 k1 k2 hg0 hg hA hT hP bt bu bv v0 v1 e1 e2 e3 c2⟩
      |true=>
       rw[if_pos rfl]
       rw[hb]at c2
       simp only[Bool.and_eq_true,decide_eq_true_eq]at hb
       exact⟨by simpa using hl,a6g ho _ _ ⟨hn0,hb.2⟩,f5t _ _ _ _ f e i op a _ _ _ N _ _ [] _ k0 k1 k2 hg0 hg hA hT hP bt bu bv v0 v1 e1 e2 e3 c2⟩
     ·rw[if_neg e2]
      rw[Bool.not_eq_true]at e2
      have c1:=hcm H (i+1) (H.getD (i-f).toNat 0-tk op a+pt op) hl (by omega) (by omega)
      cases hb:(cmB H (i+1-f).toNat (H.getD (i-f).toNat 0-tk op a+pt op)&&decide (H.getD (i-f).toNat 0-tk op a+pt op<=20))with
      |false=>
       rw[if_neg (by simp)]
       rw[hb]at c1
       by_cases e3:f8 op 21=true
       ·exact⟨_,f5w _ _ _ _ f e i op a _ _ _ N _ _ _ [] k0 k1 k2 hg0 hg hA hT hP bt bu bv v0 v1 e1 e2 e3 c1⟩
       ·rw[Bool.not_eq_true]at e3
        exact⟨_,f5u _ _ _ _ f e i op a _ _ _ N _ _ _ [] k0 k1 k2 hg0 hg hA hT hP bt bu bv v0 v1 e1 e2 e3 c1⟩
      |true=>
       rw[if_pos rfl]
       rw[hb]at c1
       simp only[Bool.and_eq_true,decide_eq_true_eq]at hb
       have hl1:(H.set (i+1-f).toNat (H.getD (i-f).toNat 0-tk op a+pt op)).length=N:=by simpa using hl
       have ho1:=a6g ho (i+1-f).toNat _ ⟨hn0,hb.2⟩
       by_cases e3:f8 op 21=true
       ·rw[if_pos e3]
        obtain⟨j1,j2⟩:=hj rfl (Or.inl e3)
        have c2:=hcm _ a (H.getD (i-f).toNat 0-tk op a+pt op) hl1 (by omega) j2
        unfold b5q
        cases hb2:(cmB (H.set (i+1-f).toNat (H.getD (i-f).toNat 0-tk op a+pt op)) (a-f).toNat (H.getD (i-f).toNat 0-tk op a+pt op)&&decide (H.getD (i-f).toNat 0-tk op a+pt op<=20))with
        |false=>
         rw[if_neg (by simp)]
         rw[hb2]at c2
         exact⟨_,f5x _ _ _ _ f e i op a _ _ _ N _ _ _ _ k0 k1 k2 hg0 hg hA hT hP bt bu bv v0 v1 e1 e2 e3 c1 c2⟩
        |true=>
         rw[if_pos rfl]
         rw[hb2]at c2
         exact⟨by simpa using hl1,a6g ho1 _ _ ⟨hn0,hb.2⟩,f5y _ _ _ _ f e i op a _ _ _ N _ _ _ _ k0 k1 k2 hg0 hg hA hT hP bt bu bv v0 v1 e1 e2 e3 c1 c2⟩
       ·rw[if_neg e3]
        rw[Bool.not_eq_true]at e3
        exact⟨hl1,ho1,f5v _ _ _ _ f e i op a _ _ _ N _ _ _ [] k0 k1 k2 hg0 hg hA hT hP bt bu bv v0 v1 e1 e2 e3 c1⟩
theorem d9q(c:n8)(p q:Bool)(f e:Int)(N:Nat)(H:List Int):lpA c p q f e e N H=some (.exit 0,stE f e N H):=by
 unfold lpA stA stE
 generalize c8 q 2 (g9 c.List)=d2
 generalize c8 p 1 (rS c.Texts)=d1
 generalize rI H=R
 exact lp V59
theorem c0o(rd:List UInt8->Bool)(hR:C5 78 rd)(c:n8)(p q:Bool)(f e:Int)(N:Nat)(hp:d1r c f e N): ∀(m:Nat)(i:Int)(H:List Int),H.length=N->okH H->f<=i->i+m=e->
  match Y8 (arI rd c.Texts e) c.List f m i H with
  |some Hf=>Hf.length=N∧okH Hf∧lpA c p q f e i N H=some (.exit 0,stE f e N Hf)
  |none=> ∃H',lpA c p q f e i N H=some (.ret,stR f e N H')
 |0,i,H,hl,ho,h1,h2=>by
  have:i=e:=by simpa using h2
  subst this
  exact⟨hl,ho,d9q c p q f i N H⟩
 |m+1,i,H,hl,ho,h1,h2=>by
  have hs:=d5f rd hR c p q f e N hp i H hl ho h1 (by omega)
  rw[Y8]
  cases hc:S4 (arI rd c.Texts e) c.List f i H with
  |none=>
   rw[hc]at hs
   exact hs
  |some H'=>
   rw[hc]at hs
   obtain⟨g1,g2,g3⟩:=hs
   have ih:=c0o rd hR c p q f e N hp m (i+1) H' g1 g2 (by omega) (by omega)
   rw[<-g3]at ih
   exact ih
theorem c6p(rd:List UInt8->Bool)(hR:C5 78 rd)(c:n8)(p q:Bool)(f e:Int)(hp:d1r c f e (e-f+1).toNat):c6 Tryz.prog T1 L1 59 [.agg [.d (c8 p 1 (rS c.Texts)),.d (c8 q 2 (g9 c.List)),.d (.v (.int .i64 (c.Begin))),.d (.v (.int .i64 (c.Line))),.d (.v (.int .i64 (c.End)))],.c (.d (.v (.int .i64 (f)))),.c (.d (.v (.int .i64 (e))))] []=some (.one (.c (.d (.v (.bool (I1 (arI rd c.Texts e) c.List f e))))),[]):=by
 have b0:=hp.b0
 have b1:=hp.b1
 have b2:=hp.b2
 have b3:=hp.b3
 have hN:(e-f+1).toNat=(e-f).toNat+1:=by omega
 have Lp:=c0o rd hR c p q f e _ hp (e-f).toNat f (0::List.replicate (e-f).toNat (-1)) (by simp;omega) (fun v hv=>by
  rcases List.mem_cons.1 hv with h|h
  ·subst h;omega
  ·obtain⟨_,h⟩:=List.mem_replicate.1 h;subst h;omega) (by omega) (by omega)
 have hrep:=d5e (e-f+1).toNat (by omega) (by omega)
 rw[show(((e-f+1).toNat:Nat):Int)=e-f+1 by omega]at hrep
 have hset:(List.replicate (e-f+1).toNat ([.v (.int .i64 (-1))]:List D)).set 0 [.v (.int .i64 (0))]=rI (0::List.replicate (e-f).toNat (-1)):=by
  rw[hN,List.replicate_succ]
  show _::_=_
  simp[rI]
 have hlen:0<(e-f+1).toNat:=by omega
 have hg0:(List.replicate (e-f+1).toNat ([.v (.int .i64 (-1))]:List D))[0]?=some [.v (.int .i64 (-1))]:=by rw[hN,List.replicate_succ];rfl
 unfold I1
 clear hp hR
 unfold lpA stA stE stR at Lp
 have hle: ∀G:List Int,G.length=(e-f+1).toNat->(rI G)[(e-f).toNat]?=some [.v (.int .i64 (G.getD (e-f).toNat 0))]:=fun G hG=>a4d G _ (by omega)
 have hef:0<=e-f:=by omega
 have hef2:(e-f).toNat<(e-f+1).toNat:=by omega
 have hef3:(e-f+1).toNat<=400:=by omega
 have hef4:e-f<((e-f+1).toNat:Int):=by omega
 clear hN
 generalize c8 q 2 (g9 c.List)=d2 at*
 generalize c8 p 1 (rS c.Texts)=d1 at*
 generalize rI (0::List.replicate (e-f).toNat (-1))=R0 at*
 generalize List.replicate (e-f+1).toNat ([.v (.int .i64 (-1))]:List D)=R at*
 generalize (e-f+1).toNat=N at*
 cases hc:Y8 (arI rd c.Texts e) c.List f (e-f).toNat f (0::List.replicate (e-f).toNat (-1))with
 |none=>
  rw[hc]at Lp
  obtain⟨H',Lp⟩:=Lp
  clear hc hle
  generalize rI H'=R2 at Lp
  exact fn V59 Tryz.func59
 |some Hf=>
  rw[hc]at Lp
  obtain⟨g1,g2,Lp⟩:=Lp
  have hg:=hle Hf g1
  have hbv:=a9x g2 (e-f).toNat
  clear hc hle g1 g2
  simp only
  generalize Hf.getD (e-f).toNat 0=v at hg hbv⊢
  generalize rI Hf=R2 at hg Lp
  exact fn V59 Tryz.func59
end
end Go.Vsi
