/- What the functions of the program, of the reference and of the law do (a part of it). -/
import Derived.Test.YtbjkeppbogdgcaaGreatZY43
namespace Go.Vsi
open Go.Proofs
noncomputable section
set_option maxRecDepth 100000
set_option maxHeartbeats 4000000
set_option linter.unusedSimpArgs false
set_option linter.unusedVariables false
attribute [local go_sem ↓] v6
theorem e6o(s:List UInt8)(N:Nat)(R:List (List D))(t:Int)(b:Bool)(i n:Int)(h:n<=i):a3n s i n N t b R=a5g s N t b R:=by
 have hroom:room=70368744177664:=rfl
 exact lp I3
theorem e6p(s:List UInt8)(N:Nat)(R:List (List D))(t:Int)(b:Bool)(i n:Int)(h:i<n)(h2:2100<=i):a3n s i n N t b R=a5g s N t b R:=by
 have hroom:room=70368744177664:=rfl
 exact lp I3
theorem e6q(s:List UInt8)(N:Nat)(R:List (List D))(t:Int)(i n:Int)(h:i<n)(h2:i<2100):a3n s i n N t true R=a5g s N t true R:=by
 have hroom:room=70368744177664:=rfl
 exact lp I3
theorem e6r(s:List UInt8)(N:Nat)(R:List (List D))(t0 t1 t2 t3 i n:Int)(b1 b2 b3:Bool)(x1 x2 x3:List UInt8)(h:0<=i∧i<n∧n<=1000000000)(h2:i<2100)(hN:R.length=N∧N<=100000)(hT:R.take N=R)(f1:kR 10 s [] t0 false (ws x1) t1 b1)(f2:kR 10 s [] t1 b1 (ws x2) t2 b2)(f3:kR 10 s [] t2 b2 (ws x3) t3 b3):a3n s i n N t0 false R=a3n s (i+1) n (N+1) t3 b3 (R++[[.v (.string (B (x1))),.v (.string (B (x2))),.v (.string (B (x3)))]]):=by
 have hN2:=hN.1
 have hroom:room=70368744177664:=rfl
 exact lp I3
theorem e6s(s:List UInt8)(t:Int)(b:Bool)(i n:Int)(h:n<=i):a3o s i n t b=b0c s t b:=by
 have hroom:room=70368744177664:=rfl
 exact lp I3
theorem e6t(s:List UInt8)(t:Int)(i n:Int)(h:i<n)(h2:i<2100):a3o s i n t true=b0c s t true:=by
 have hroom:room=70368744177664:=rfl
 exact lp I3
theorem e6u(s:List UInt8)(t0 t1 t2 t3 i n:Int)(b1 b2 b3:Bool)(x1 x2 x3:List UInt8)(h:0<=i∧i<n∧n<=1000000000)(h2:i<2100)(f1:kR 10 s [] t0 false (ws x1) t1 b1)(f2:kR 10 s [] t1 b1 (ws x2) t2 b2)(f3:kR 10 s [] t2 b2 (ws x3) t3 b3):a3o s i n t0 false=a3n s (i+1) n 1 t3 b3 ([[.v (.string (B (x1))),.v (.string (B (x2))),.v (.string (B (x3)))]]):=by
 have hroom:room=70368744177664:=rfl
 exact lp I3
theorem e6v(s:List UInt8)(M:Nat)(Q:List (List D))(N:Nat)(R:List (List D))(t:Int)(b:Bool)(i n:Int)(h:n<=i):a3p s M Q i n N t b R=a5h s M Q N t b R:=by
 have hroom:room=70368744177664:=rfl
 exact lp I3
theorem e6w(s:List UInt8)(M:Nat)(Q:List (List D))(N:Nat)(R:List (List D))(t:Int)(b:Bool)(i n:Int)(h:i<n)(h2:2100<=i):a3p s M Q i n N t b R=a5h s M Q N t b R:=by
 have hroom:room=70368744177664:=rfl
 exact lp I3
theorem e6x(s:List UInt8)(M:Nat)(Q:List (List D))(N:Nat)(R:List (List D))(t:Int)(i n:Int)(h:i<n)(h2:i<2100):a3p s M Q i n N t true R=a5h s M Q N t true R:=by
 have hroom:room=70368744177664:=rfl
 exact lp I3
theorem e6y(s:List UInt8)(M:Nat)(Q:List (List D))(N:Nat)(R:List (List D))(t0 t1 t2 t3 i n:Int)(b1 b2 b3:Bool)(x1 x2 x3:List UInt8)(h:0<=i∧i<n∧n<=1000000000)(h2:i<2100)(hN:R.length=N∧N<=100000)(hT:R.take N=R)(f1:kR 10 s [] t0 false (ws x1) t1 b1)(f2:kR 10 s [] t1 b1 (ws x2) t2 b2)(f3:kR 10 s [] t2 b2 (ws x3) t3 b3):a3p s M Q i n N t0 false R=a3p s M Q (i+1) n (N+1) t3 b3 (R++[[.v (.string (B (x1))),.v (.string (B (x2))),.v (.string (B (x3)))]]):=by
 have hN2:=hN.1
 have hroom:room=70368744177664:=rfl
 exact lp I3
theorem e6z(s:List UInt8)(M:Nat)(Q:List (List D))(t:Int)(b:Bool)(i n:Int)(h:n<=i):a3q s M Q i n t b=b0d s M Q t b:=by
 have hroom:room=70368744177664:=rfl
 exact lp I3
theorem e7a(s:List UInt8)(M:Nat)(Q:List (List D))(t:Int)(i n:Int)(h:i<n)(h2:i<2100):a3q s M Q i n t true=b0d s M Q t true:=by
 have hroom:room=70368744177664:=rfl
 exact lp I3
theorem e7b(s:List UInt8)(M:Nat)(Q:List (List D))(t0 t1 t2 t3 i n:Int)(b1 b2 b3:Bool)(x1 x2 x3:List UInt8)(h:0<=i∧i<n∧n<=1000000000)(h2:i<2100)(f1:kR 10 s [] t0 false (ws x1) t1 b1)(f2:kR 10 s [] t1 b1 (ws x2) t2 b2)(f3:kR 10 s [] t2 b2 (ws x3) t3 b3):a3q s M Q i n t0 false=a3p s M Q (i+1) n 1 t3 b3 ([[.v (.string (B (x1))),.v (.string (B (x2))),.v (.string (B (x3)))]]):=by
 have hroom:room=70368744177664:=rfl
 exact lp I3
theorem f6m(s:List UInt8)(d1 d2 d3 d4 d5 d6 d7 d8:D)(k1 k2:Bool)(N:Nat)(R:List (List D))(t:Int)(b:Bool)(i n:Int)(h:n<=i):V2 s d1 d2 d3 d4 d5 d6 d7 d8 k1 k2 i n N t b R=M9 s d1 d2 d3 d4 d5 d6 d7 d8 k1 k2 N t b R:=by
 have hroom:room=70368744177664:=rfl
 exact lp V4
theorem f6n(s:List UInt8)(d1 d2 d3 d4 d5 d6 d7 d8:D)(k1 k2:Bool)(N:Nat)(R:List (List D))(t:Int)(b:Bool)(i n:Int)(h:i<n)(h2:50<=i):V2 s d1 d2 d3 d4 d5 d6 d7 d8 k1 k2 i n N t b R=M9 s d1 d2 d3 d4 d5 d6 d7 d8 k1 k2 N t b R:=by
 have hroom:room=70368744177664:=rfl
 exact lp V4
theorem f6o(s:List UInt8)(d1 d2 d3 d4 d5 d6 d7 d8:D)(k1 k2:Bool)(N:Nat)(R:List (List D))(t:Int)(i n:Int)(h:i<n)(h2:i<50):V2 s d1 d2 d3 d4 d5 d6 d7 d8 k1 k2 i n N t true R=M9 s d1 d2 d3 d4 d5 d6 d7 d8 k1 k2 N t true R:=by
 have hroom:room=70368744177664:=rfl
 exact lp V4
theorem f6p(s:List UInt8)(d1 d2 d3 d4 d5 d6 d7 d8:D)(k1 k2:Bool)(N:Nat)(R:List (List D))(t0 t1 i n:Int)(b1:Bool)(x1:List UInt8)(h:0<=i∧i<n∧n<=1000000000)(h2:i<50)(hN:R.length=N∧N<=100000)(hT:R.take N=R)(f1:kR 10 s [] t0 false (ws x1) t1 b1):V2 s d1 d2 d3 d4 d5 d6 d7 d8 k1 k2 i n N t0 false R=V2 s d1 d2 d3 d4 d5 d6 d7 d8 k1 k2 (i+1) n (N+1) t1 b1 (R++[[.v (.string (B (x1)))]]):=by
 have hN2:=hN.1
 have hroom:room=70368744177664:=rfl
 exact lp V4
theorem f6q(s:List UInt8)(d1 d2 d3 d4 d5 d6 d7 d8:D)(k1 k2:Bool)(t:Int)(b:Bool)(i n:Int)(h:n<=i):G6 s d1 d2 d3 d4 d5 d6 d7 d8 k1 k2 i n t b=O8 s d1 d2 d3 d4 d5 d6 d7 d8 k1 k2 t b:=by
 have hroom:room=70368744177664:=rfl
 exact lp V4
theorem f6r(s:List UInt8)(d1 d2 d3 d4 d5 d6 d7 d8:D)(k1 k2:Bool)(t:Int)(i n:Int)(h:i<n)(h2:i<50):G6 s d1 d2 d3 d4 d5 d6 d7 d8 k1 k2 i n t true=O8 s d1 d2 d3 d4 d5 d6 d7 d8 k1 k2 t true:=by
 have hroom:room=70368744177664:=rfl
 exact lp V4
theorem f6s(s:List UInt8)(d1 d2 d3 d4 d5 d6 d7 d8:D)(k1 k2:Bool)(t0 t1 i n:Int)(b1:Bool)(x1:List UInt8)(h:0<=i∧i<n∧n<=1000000000)(h2:i<50)(f1:kR 10 s [] t0 false (ws x1) t1 b1):G6 s d1 d2 d3 d4 d5 d6 d7 d8 k1 k2 i n t0 false=V2 s d1 d2 d3 d4 d5 d6 d7 d8 k1 k2 (i+1) n 1 t1 b1 ([[.v (.string (B (x1)))]]):=by
 have hroom:room=70368744177664:=rfl
 exact lp V4
theorem f1l(s:List UInt8)(d1 d2 d3 d4 d5 d6 d7 d8:D)(k1 k2:Bool)(N:Nat)(R:List (List D))(t:Int)(b:Bool)(i n:Int)(h:n<=i):a0s s d1 d2 d3 d4 d5 d6 d7 d8 k1 k2 i n N t b R=W0 s d1 d2 d3 d4 d5 d6 d7 d8 k1 k2 N t b R:=by
 have hroom:room=70368744177664:=rfl
 exact lp V4
theorem f1m(s:List UInt8)(d1 d2 d3 d4 d5 d6 d7 d8:D)(k1 k2:Bool)(N:Nat)(R:List (List D))(t:Int)(b:Bool)(i n:Int)(h:i<n)(h2:50<=i):a0s s d1 d2 d3 d4 d5 d6 d7 d8 k1 k2 i n N t b R=W0 s d1 d2 d3 d4 d5 d6 d7 d8 k1 k2 N t b R:=by
 have hroom:room=70368744177664:=rfl
 exact lp V4
theorem f1n(s:List UInt8)(d1 d2 d3 d4 d5 d6 d7 d8:D)(k1 k2:Bool)(N:Nat)(R:List (List D))(t:Int)(i n:Int)(h:i<n)(h2:i<50):a0s s d1 d2 d3 d4 d5 d6 d7 d8 k1 k2 i n N t true R=W0 s d1 d2 d3 d4 d5 d6 d7 d8 k1 k2 N t true R:=by
 have hroom:room=70368744177664:=rfl
 exact lp V4
theorem f1o(s:List UInt8)(d1 d2 d3 d4 d5 d6 d7 d8:D)(k1 k2:Bool)(N:Nat)(R:List (List D))(t0 t1 i n:Int)(b1:Bool)(x1:List UInt8)(h:0<=i∧i<n∧n<=1000000000)(h2:i<50)(hN:R.length=N∧N<=100000)(hT:R.take N=R)(f1:kR 10 s [] t0 false (ws x1) t1 b1):a0s s d1 d2 d3 d4 d5 d6 d7 d8 k1 k2 i n N t0 false R=a0s s d1 d2 d3 d4 d5 d6 d7 d8 k1 k2 (i+1) n (N+1) t1 b1 (R++[[.v (.string (B (x1)))]]):=by
 have hN2:=hN.1
 have hroom:room=70368744177664:=rfl
 exact lp V4
theorem f1p(s:List UInt8)(d1 d2 d3 d4 d5 d6 d7 d8:D)(k1 k2:Bool)(t:Int)(b:Bool)(i n:Int)(h:n<=i):N0 s d1 d2 d3 d4 d5 d6 d7 d8 k1 k2 i n t b=a0t s d1 d2 d3 d4 d5 d6 d7 d8 k1 k2 t b:=by
 have hroom:room=70368744177664:=rfl
 exact lp V4
theorem f1q(s:List UInt8)(d1 d2 d3 d4 d5 d6 d7 d8:D)(k1 k2:Bool)(t:Int)(i n:Int)(h:i<n)(h2:i<50):N0 s d1 d2 d3 d4 d5 d6 d7 d8 k1 k2 i n t true=a0t s d1 d2 d3 d4 d5 d6 d7 d8 k1 k2 t true:=by
 have hroom:room=70368744177664:=rfl
 exact lp V4
theorem f1r(s:List UInt8)(d1 d2 d3 d4 d5 d6 d7 d8:D)(k1 k2:Bool)(t0 t1 i n:Int)(b1:Bool)(x1:List UInt8)(h:0<=i∧i<n∧n<=1000000000)(h2:i<50)(f1:kR 10 s [] t0 false (ws x1) t1 b1):N0 s d1 d2 d3 d4 d5 d6 d7 d8 k1 k2 i n t0 false=a0s s d1 d2 d3 d4 d5 d6 d7 d8 k1 k2 (i+1) n 1 t1 b1 ([[.v (.string (B (x1)))]]):=by
 have hroom:room=70368744177664:=rfl
 exact lp V4
theorem f1s(s:List UInt8)(d1 d2 d3 d4 d5 d6 d7 d8:D)(k1 k2:Bool)(M:Nat)(Q:List (List D))(N:Nat)(R:List (List D))(t:Int)(b:Bool)(i n:Int)(h:n<=i):a0u s d1 d2 d3 d4 d5 d6 d7 d8 k1 k2 M Q i n N t b R=W1 s d1 d2 d3 d4 d5 d6 d7 d8 k1 k2 M Q N t b R:=by
 have hroom:room=70368744177664:=rfl
 exact lp V4
theorem f1t(s:List UInt8)(d1 d2 d3 d4 d5 d6 d7 d8:D)(k1 k2:Bool)(M:Nat)(Q:List (List D))(N:Nat)(R:List (List D))(t:Int)(b:Bool)(i n:Int)(h:i<n)(h2:50<=i):a0u s d1 d2 d3 d4 d5 d6 d7 d8 k1 k2 M Q i n N t b R=W1 s d1 d2 d3 d4 d5 d6 d7 d8 k1 k2 M Q N t b R:=by
 have hroom:room=70368744177664:=rfl
 exact lp V4
theorem f1u(s:List UInt8)(d1 d2 d3 d4 d5 d6 d7 d8:D)(k1 k2:Bool)(M:Nat)(Q:List (List D))(N:Nat)(R:List (List D))(t:Int)(i n:Int)(h:i<n)(h2:i<50):a0u s d1 d2 d3 d4 d5 d6 d7 d8 k1 k2 M Q i n N t true R=W1 s d1 d2 d3 d4 d5 d6 d7 d8 k1 k2 M Q N t true R:=by
 have hroom:room=70368744177664:=rfl
 exact lp V4
theorem f1v(s:List UInt8)(d1 d2 d3 d4 d5 d6 d7 d8:D)(k1 k2:Bool)(M:Nat)(Q:List (List D))(N:Nat)(R:List (List D))(t0 t1 i n:Int)(b1:Bool)(x1:List UInt8)(h:0<=i∧i<n∧n<=1000000000)(h2:i<50)(hN:R.length=N∧N<=100000)(hT:R.take N=R)(f1:kR 10 s [] t0 false (ws x1) t1 b1):a0u s d1 d2 d3 d4 d5 d6 d7 d8 k1 k2 M Q i n N t0 false R=a0u s d1 d2 d3 d4 d5 d6 d7 d8 k1 k2 M Q (i+1) n (N+1) t1 b1 (R++[[.v (.string (B (x1)))]]):=by
 have hN2:=hN.1
 have hroom:room=70368744177664:=rfl
 exact lp V4
theorem f1w(s:List UInt8)(d1 d2 d3 d4 d5 d6 d7 d8:D)(k1 k2:Bool)(M:Nat)(Q:List (List D))(t:Int)(b:Bool)(i n:Int)(h:n<=i):N1 s d1 d2 d3 d4 d5 d6 d7 d8 k1 k2 M Q i n t b=a0v s d1 d2 d3 d4 d5 d6 d7 d8 k1 k2 M Q t b:=by
 have hroom:room=70368744177664:=rfl
 exact lp V4
theorem f1x(s:List UInt8)(d1 d2 d3 d4 d5 d6 d7 d8:D)(k1 k2:Bool)(M:Nat)(Q:List (List D))(t:Int)(i n:Int)(h:i<n)(h2:i<50):N1 s d1 d2 d3 d4 d5 d6 d7 d8 k1 k2 M Q i n t true=a0v s d1 d2 d3 d4 d5 d6 d7 d8 k1 k2 M Q t true:=by
 have hroom:room=70368744177664:=rfl
 exact lp V4
theorem f1y(s:List UInt8)(d1 d2 d3 d4 d5 d6 d7 d8:D)(k1 k2:Bool)(M:Nat)(Q:List (List D))(t0 t1 i n:Int)(b1:Bool)(x1:List UInt8)(h:0<=i∧i<n∧n<=1000000000)(h2:i<50)(f1:kR 10 s [] t0 false (ws x1) t1 b1):N1 s d1 d2 d3 d4 d5 d6 d7 d8 k1 k2 M Q i n t0 false=a0u s d1 d2 d3 d4 d5 d6 d7 d8 k1 k2 M Q (i+1) n 1 t1 b1 ([[.v (.string (B (x1)))]]):=by
 have hroom:room=70368744177664:=rfl
 exact lp V4
end
end Go.Vsi
