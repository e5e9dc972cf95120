/- What the functions of the program, of the reference and of the law do (a part of it). -/
import Derived.Test.YtbjkeppbogdgcaaGreatZY43
namespace Go.Vsi
open Go.Proofs
noncomputable section
set_option maxRecDepth 100000
set_option maxHeartbeats 4000000
set_option linter.unusedSimpArgs false
set_option linter.unusedVariables false
attribute [local go_sem ↓] v6
theorem f0p(s:List UInt8)(N:Nat)(R:List (List D))(t:Int)(b:Bool)(n:Int):a5v s n n N t b R=a4p s N t b R:=by
 have hroom:room=70368744177664:=rfl
 exact lp V14
theorem f0q(s:List UInt8)(N:Nat)(R:List (List D))(t0 t1 i n:Int)(b0 b1:Bool)(x1:List UInt8)(h:0<=i∧i<n∧n<=1000000000)(hN:R.length=N∧N<=100000)(hT:R.take N=R)(f1:kR 15 s [] t0 b0 (ws x1) t1 b1):a5v s i n N t0 b0 R=a5v s (i+1) n (N+1) t1 b1 (R++[[.v (.string (B (x1)))]]):=by
 have hN2:=hN.1
 have hroom:room=70368744177664:=rfl
 exact lp V14
theorem f0r(s:List UInt8)(t:Int)(b:Bool)(n:Int):a0o s n n t b=a8s s t b:=by
 have hroom:room=70368744177664:=rfl
 exact lp V14
theorem f0s(s:List UInt8)(t0 t1 i n:Int)(b0 b1:Bool)(x1:List UInt8)(h:0<=i∧i<n∧n<=1000000000)(f1:kR 15 s [] t0 b0 (ws x1) t1 b1):a0o s i n t0 b0=a5v s (i+1) n 1 t1 b1 ([[.v (.string (B (x1)))]]):=by
 have hroom:room=70368744177664:=rfl
 exact lp V14
theorem f0t(s:List UInt8)(N:Nat)(R:List (List D))(t:Int)(b:Bool)(n:Int):a5w s n n N t b R=a4q s N t b R:=by
 have hroom:room=70368744177664:=rfl
 exact lp V16
theorem f0u(s:List UInt8)(N:Nat)(R:List (List D))(t0 t1 t2 i n:Int)(b0 b1 b2:Bool)(x1 x2:List UInt8)(h:0<=i∧i<n∧n<=1000000000)(hN:R.length=N∧N<=100000)(hT:R.take N=R)(f1:kR 15 s [] t0 b0 (ws x1) t1 b1)(f2:kR 15 s [] t1 b1 (ws x2) t2 b2):a5w s i n N t0 b0 R=a5w s (i+1) n (N+1) t2 b2 (R++[[.v (.string (B (x1))),.v (.string (B (x2)))]]):=by
 have hN2:=hN.1
 have hroom:room=70368744177664:=rfl
 exact lp V16
theorem f0v(s:List UInt8)(t:Int)(b:Bool)(n:Int):a0p s n n t b=a8t s t b:=by
 have hroom:room=70368744177664:=rfl
 exact lp V16
theorem f0w(s:List UInt8)(t0 t1 t2 i n:Int)(b0 b1 b2:Bool)(x1 x2:List UInt8)(h:0<=i∧i<n∧n<=1000000000)(f1:kR 15 s [] t0 b0 (ws x1) t1 b1)(f2:kR 15 s [] t1 b1 (ws x2) t2 b2):a0p s i n t0 b0=a5w s (i+1) n 1 t2 b2 ([[.v (.string (B (x1))),.v (.string (B (x2)))]]):=by
 have hroom:room=70368744177664:=rfl
 exact lp V16
theorem f6k(s:List UInt8)(N:Nat)(R:List (List D))(t:Int)(b:Bool)(n:Int):c4h s n n N t b R=e0b s N t b R:=by
 have hroom:room=70368744177664:=rfl
 exact lp V17
theorem f6l(s:List UInt8)(N:Nat)(R:List (List D))(t0 t1 i n:Int)(b0 b1:Bool)(x1:List UInt8)(h:0<=i∧i<n∧n<=1000000000)(hN:R.length=N∧N<=100000)(hT:R.take N=R)(f1:kR 15 s [] t0 b0 (ws x1) t1 b1):c4h s i n N t0 b0 R=c4h s (i+1) n (N+1) t1 b1 (R++[[.v (.string (B (x1)))]]):=by
 have hN2:=hN.1
 have hroom:room=70368744177664:=rfl
 exact lp V17
theorem e5k(s:List UInt8)(N:Nat)(R:List (List D))(t:Int)(b:Bool)(n:Int):a7k s n n N t b R=a9y s N t b R:=by
 have hroom:room=70368744177664:=rfl
 exact lp V14
theorem e5l(s:List UInt8)(N:Nat)(R:List (List D))(t0 t1 t2 i n:Int)(b0 b1 b2:Bool)(x1 x2:Int)(h:0<=i∧i<n∧n<=1000000000)(hN:R.length=N∧N<=100000)(hT:R.take N=R)(f1:kR 37 s [] t0 b0 (wi x1) t1 b1)(f2:kR 37 s [] t1 b1 (wi x2) t2 b2):a7k s i n N t0 b0 R=a7k s (i+1) n (N+1) t2 b2 (R++[[.v (.int .i64 (x1)),.v (.int .i64 (x2))]]):=by
 have hN2:=hN.1
 have hroom:room=70368744177664:=rfl
 exact lp V14
theorem e5m(s:List UInt8)(t:Int)(b:Bool)(n:Int):a7l s n n t b=b7x s t b:=by
 have hroom:room=70368744177664:=rfl
 exact lp V14
theorem e5n(s:List UInt8)(t0 t1 t2 i n:Int)(b0 b1 b2:Bool)(x1 x2:Int)(h:0<=i∧i<n∧n<=1000000000)(f1:kR 37 s [] t0 b0 (wi x1) t1 b1)(f2:kR 37 s [] t1 b1 (wi x2) t2 b2):a7l s i n t0 b0=a7k s (i+1) n 1 t2 b2 ([[.v (.int .i64 (x1)),.v (.int .i64 (x2))]]):=by
 have hroom:room=70368744177664:=rfl
 exact lp V14
theorem e5o(s:List UInt8)(M:Nat)(Q:List (List D))(N:Nat)(R:List (List D))(t:Int)(b:Bool)(n:Int):a7m s M Q n n N t b R=a9z s M Q N t b R:=by
 have hroom:room=70368744177664:=rfl
 exact lp V14
theorem e5p(s:List UInt8)(M:Nat)(Q:List (List D))(N:Nat)(R:List (List D))(t0 t1 t2 i n:Int)(b0 b1 b2:Bool)(x1 x2:Int)(h:0<=i∧i<n∧n<=1000000000)(hN:R.length=N∧N<=100000)(hT:R.take N=R)(f1:kR 37 s [] t0 b0 (wi x1) t1 b1)(f2:kR 37 s [] t1 b1 (wi x2) t2 b2):a7m s M Q i n N t0 b0 R=a7m s M Q (i+1) n (N+1) t2 b2 (R++[[.v (.int .i64 (x1)),.v (.int .i64 (x2))]]):=by
 have hN2:=hN.1
 have hroom:room=70368744177664:=rfl
 exact lp V14
theorem e5q(s:List UInt8)(M:Nat)(Q:List (List D))(t:Int)(b:Bool)(n:Int):a7n s M Q n n t b=b7y s M Q t b:=by
 have hroom:room=70368744177664:=rfl
 exact lp V14
theorem e5r(s:List UInt8)(M:Nat)(Q:List (List D))(t0 t1 t2 i n:Int)(b0 b1 b2:Bool)(x1 x2:Int)(h:0<=i∧i<n∧n<=1000000000)(f1:kR 37 s [] t0 b0 (wi x1) t1 b1)(f2:kR 37 s [] t1 b1 (wi x2) t2 b2):a7n s M Q i n t0 b0=a7m s M Q (i+1) n 1 t2 b2 ([[.v (.int .i64 (x1)),.v (.int .i64 (x2))]]):=by
 have hroom:room=70368744177664:=rfl
 exact lp V14
end
end Go.Vsi
namespace Go.Vsi
open Go.Proofs
noncomputable section
set_option maxRecDepth 100000
set_option maxHeartbeats 4000000
set_option linter.unusedSimpArgs false
set_option linter.unusedVariables false
attribute [local go_sem ↓] v6
theorem e5s(s:List UInt8)(N:Nat)(R:List (List D))(t:Int)(b:Bool)(n:Int):a7o s n n N t b R=b0a s N t b R:=by
 have hroom:room=70368744177664:=rfl
 exact lp V16
theorem e5t(s:List UInt8)(N:Nat)(R:List (List D))(t0 t1 t2 t3 i n:Int)(b0 b1 b2 b3:Bool)(x1 x2 x3:List UInt8)(h:0<=i∧i<n∧n<=1000000000)(hN:R.length=N∧N<=100000)(hT:R.take N=R)(f1:kR 15 s [] t0 b0 (ws x1) t1 b1)(f2:kR 15 s [] t1 b1 (ws x2) t2 b2)(f3:kR 15 s [] t2 b2 (ws x3) t3 b3):a7o s i n N t0 b0 R=a7o s (i+1) n (N+1) t3 b3 (R++[[.v (.string (B (x1))),.v (.string (B (x2))),.v (.string (B (x3)))]]):=by
 have hN2:=hN.1
 have hroom:room=70368744177664:=rfl
 exact lp V16
theorem e5u(s:List UInt8)(t:Int)(b:Bool)(n:Int):a7p s n n t b=b7z s t b:=by
 have hroom:room=70368744177664:=rfl
 exact lp V16
theorem e5v(s:List UInt8)(t0 t1 t2 t3 i n:Int)(b0 b1 b2 b3:Bool)(x1 x2 x3:List UInt8)(h:0<=i∧i<n∧n<=1000000000)(f1:kR 15 s [] t0 b0 (ws x1) t1 b1)(f2:kR 15 s [] t1 b1 (ws x2) t2 b2)(f3:kR 15 s [] t2 b2 (ws x3) t3 b3):a7p s i n t0 b0=a7o s (i+1) n 1 t3 b3 ([[.v (.string (B (x1))),.v (.string (B (x2))),.v (.string (B (x3)))]]):=by
 have hroom:room=70368744177664:=rfl
 exact lp V16
theorem e5w(s:List UInt8)(M:Nat)(Q:List (List D))(N:Nat)(R:List (List D))(t:Int)(b:Bool)(n:Int):a7q s M Q n n N t b R=b0b s M Q N t b R:=by
 have hroom:room=70368744177664:=rfl
 exact lp V16
theorem e5x(s:List UInt8)(M:Nat)(Q:List (List D))(N:Nat)(R:List (List D))(t0 t1 t2 t3 i n:Int)(b0 b1 b2 b3:Bool)(x1 x2 x3:List UInt8)(h:0<=i∧i<n∧n<=1000000000)(hN:R.length=N∧N<=100000)(hT:R.take N=R)(f1:kR 15 s [] t0 b0 (ws x1) t1 b1)(f2:kR 15 s [] t1 b1 (ws x2) t2 b2)(f3:kR 15 s [] t2 b2 (ws x3) t3 b3):a7q s M Q i n N t0 b0 R=a7q s M Q (i+1) n (N+1) t3 b3 (R++[[.v (.string (B (x1))),.v (.string (B (x2))),.v (.string (B (x3)))]]):=by
 have hN2:=hN.1
 have hroom:room=70368744177664:=rfl
 exact lp V16
theorem e5y(s:List UInt8)(M:Nat)(Q:List (List D))(t:Int)(b:Bool)(n:Int):a7r s M Q n n t b=b8a s M Q t b:=by
 have hroom:room=70368744177664:=rfl
 exact lp V16
theorem e5z(s:List UInt8)(M:Nat)(Q:List (List D))(t0 t1 t2 t3 i n:Int)(b0 b1 b2 b3:Bool)(x1 x2 x3:List UInt8)(h:0<=i∧i<n∧n<=1000000000)(f1:kR 15 s [] t0 b0 (ws x1) t1 b1)(f2:kR 15 s [] t1 b1 (ws x2) t2 b2)(f3:kR 15 s [] t2 b2 (ws x3) t3 b3):a7r s M Q i n t0 b0=a7q s M Q (i+1) n 1 t3 b3 ([[.v (.string (B (x1))),.v (.string (B (x2))),.v (.string (B (x3)))]]):=by
 have hroom:room=70368744177664:=rfl
 exact lp V16
end
end Go.Vsi
namespace Go.Vsi
open Go.Proofs
noncomputable section
set_option maxRecDepth 100000
set_option maxHeartbeats 4000000
set_option linter.unusedSimpArgs false
set_option linter.unusedVariables false
attribute [local go_sem ↓] v6
theorem f0x(s:List UInt8)(N:Nat)(R:List (List D))(t:Int)(b:Bool)(i n:Int)(h:n<=i):a3h s i n N t b R=a3i s N t b R:=by
 have hroom:room=70368744177664:=rfl
 exact lp V9
theorem f0y(s:List UInt8)(N:Nat)(R:List (List D))(t:Int)(b:Bool)(i n:Int)(h:i<n)(h2:100<=i):a3h s i n N t b R=a3i s N t b R:=by
 have hroom:room=70368744177664:=rfl
 exact lp V9
theorem f0z(s:List UInt8)(N:Nat)(R:List (List D))(t:Int)(i n:Int)(h:i<n)(h2:i<100):a3h s i n N t true R=a3i s N t true R:=by
 have hroom:room=70368744177664:=rfl
 exact lp V9
theorem f1a(s:List UInt8)(N:Nat)(R:List (List D))(t0 t1 i n:Int)(b1:Bool)(x1:List UInt8)(h:0<=i∧i<n∧n<=1000000000)(h2:i<100)(hN:R.length=N∧N<=100000)(hT:R.take N=R)(f1:kR 10 s [] t0 false (ws x1) t1 b1):a3h s i n N t0 false R=a3h s (i+1) n (N+1) t1 b1 (R++[[.v (.string (B (x1)))]]):=by
 have hN2:=hN.1
 have hroom:room=70368744177664:=rfl
 exact lp V9
theorem f1b(s:List UInt8)(t:Int)(b:Bool)(i n:Int)(h:n<=i):a0q s i n t b=a5x s t b:=by
 have hroom:room=70368744177664:=rfl
 exact lp V9
theorem f1c(s:List UInt8)(t:Int)(i n:Int)(h:i<n)(h2:i<100):a0q s i n t true=a5x s t true:=by
 have hroom:room=70368744177664:=rfl
 exact lp V9
theorem f1d(s:List UInt8)(t0 t1 i n:Int)(b1:Bool)(x1:List UInt8)(h:0<=i∧i<n∧n<=1000000000)(h2:i<100)(f1:kR 10 s [] t0 false (ws x1) t1 b1):a0q s i n t0 false=a3h s (i+1) n 1 t1 b1 ([[.v (.string (B (x1)))]]):=by
 have hroom:room=70368744177664:=rfl
 exact lp V9
theorem f1e(s:List UInt8)(N:Nat)(R:List (List D))(t:Int)(b:Bool)(i n:Int)(h:n<=i):a3j s i n N t b R=a3k s N t b R:=by
 have hroom:room=70368744177664:=rfl
 exact lp I3
theorem f1f(s:List UInt8)(N:Nat)(R:List (List D))(t:Int)(b:Bool)(i n:Int)(h:i<n)(h2:100<=i):a3j s i n N t b R=a3k s N t b R:=by
 have hroom:room=70368744177664:=rfl
 exact lp I3
theorem f1g(s:List UInt8)(N:Nat)(R:List (List D))(t:Int)(i n:Int)(h:i<n)(h2:i<100):a3j s i n N t true R=a3k s N t true R:=by
 have hroom:room=70368744177664:=rfl
 exact lp I3
theorem f1h(s:List UInt8)(N:Nat)(R:List (List D))(t0 t1 t2 i n:Int)(b1 b2:Bool)(x1 x2:List UInt8)(h:0<=i∧i<n∧n<=1000000000)(h2:i<100)(hN:R.length=N∧N<=100000)(hT:R.take N=R)(f1:kR 10 s [] t0 false (ws x1) t1 b1)(f2:kR 10 s [] t1 b1 (ws x2) t2 b2):a3j s i n N t0 false R=a3j s (i+1) n (N+1) t2 b2 (R++[[.v (.string (B (x1))),.v (.string (B (x2)))]]):=by
 have hN2:=hN.1
 have hroom:room=70368744177664:=rfl
 exact lp I3
theorem f1i(s:List UInt8)(t:Int)(b:Bool)(i n:Int)(h:n<=i):a0r s i n t b=a5y s t b:=by
 have hroom:room=70368744177664:=rfl
 exact lp I3
theorem f1j(s:List UInt8)(t:Int)(i n:Int)(h:i<n)(h2:i<100):a0r s i n t true=a5y s t true:=by
 have hroom:room=70368744177664:=rfl
 exact lp I3
theorem f1k(s:List UInt8)(t0 t1 t2 i n:Int)(b1 b2:Bool)(x1 x2:List UInt8)(h:0<=i∧i<n∧n<=1000000000)(h2:i<100)(f1:kR 10 s [] t0 false (ws x1) t1 b1)(f2:kR 10 s [] t1 b1 (ws x2) t2 b2):a0r s i n t0 false=a3j s (i+1) n 1 t2 b2 ([[.v (.string (B (x1))),.v (.string (B (x2)))]]):=by
 have hroom:room=70368744177664:=rfl
 exact lp I3
theorem e6a(s:List UInt8)(N:Nat)(R:List (List D))(t:Int)(b:Bool)(i n:Int)(h:n<=i):a1l s i n N t b R=a3l s N t b R:=by
 have hroom:room=70368744177664:=rfl
 exact lp V9
theorem e6b(s:List UInt8)(N:Nat)(R:List (List D))(t:Int)(b:Bool)(i n:Int)(h:i<n)(h2:300<=i):a1l s i n N t b R=a3l s N t b R:=by
 have hroom:room=70368744177664:=rfl
 exact lp V9
theorem e6c(s:List UInt8)(N:Nat)(R:List (List D))(t:Int)(i n:Int)(h:i<n)(h2:i<300):a1l s i n N t true R=a3l s N t true R:=by
 have hroom:room=70368744177664:=rfl
 exact lp V9
theorem e6d(s:List UInt8)(N:Nat)(R:List (List D))(t i n:Int)(x1 x2:UInt8)(h:0<=i∧i<n∧n<=1000000000)(h2:i<300)(hN:R.length=N∧N<=100000)(hT:R.take N=R)(hl:0<=t∧t+2<=(s.length:Int)∧s.length<=1000000000)(hx: ∀h:t.toNat<s.length,s[t.toNat]'h=x1)(hy: ∀h:(t+1).toNat<s.length,s[(t+1).toNat]'h=x2):a1l s i n N t false R=a1l s (i+1) n (N+1) (t+2) false (R++[[.v (.int .i64 ((x1.toNat:Int))),.v (.int .i64 ((x2.toNat:Int)))]]):=by
 have hN2:=hN.1
 have u1:x1.toNat<256:=x1.toNat_lt
 have u2:x2.toNat<256:=x2.toNat_lt
 have hroom:room=70368744177664:=rfl
 exact lp V9
theorem c8g(s:List UInt8)(N:Nat)(R:List (List D))(t i n:Int)(h:0<=i∧i<n∧n<=1000000000)(h2:i<300)(hl:0<=t∧(s.length:Int)<t+2∧t<=s.length∧s.length<=1000000000):a1l s i n N t false R=a3l s N t true R:=by
 have hroom:room=70368744177664:=rfl
 exact lp V9
theorem e6e(s:List UInt8)(t:Int)(b:Bool)(i n:Int)(h:n<=i):a1m s i n t b=a7s s t b:=by
 have hroom:room=70368744177664:=rfl
 exact lp V9
theorem e6f(s:List UInt8)(t:Int)(i n:Int)(h:i<n)(h2:i<300):a1m s i n t true=a7s s t true:=by
 have hroom:room=70368744177664:=rfl
 exact lp V9
theorem e6g(s:List UInt8)(t i n:Int)(x1 x2:UInt8)(h:0<=i∧i<n∧n<=1000000000)(h2:i<300)(hl:0<=t∧t+2<=(s.length:Int)∧s.length<=1000000000)(hx: ∀h:t.toNat<s.length,s[t.toNat]'h=x1)(hy: ∀h:(t+1).toNat<s.length,s[(t+1).toNat]'h=x2):a1m s i n t false=a1l s (i+1) n 1 (t+2) false ([[.v (.int .i64 ((x1.toNat:Int))),.v (.int .i64 ((x2.toNat:Int)))]]):=by
 have u1:x1.toNat<256:=x1.toNat_lt
 have u2:x2.toNat<256:=x2.toNat_lt
 have hroom:room=70368744177664:=rfl
 exact lp V9
theorem c8h(s:List UInt8)(t i n:Int)(h:0<=i∧i<n∧n<=1000000000)(h2:i<300)(hl:0<=t∧(s.length:Int)<t+2∧t<=s.length∧s.length<=1000000000):a1m s i n t false=a7s s t true:=by
 have hroom:room=70368744177664:=rfl
 exact lp V9
theorem e6h(s:List UInt8)(M:Nat)(Q:List (List D))(N:Nat)(R:List (List D))(t:Int)(b:Bool)(i n:Int)(h:n<=i):a1n s M Q i n N t b R=a3m s M Q N t b R:=by
 have hroom:room=70368744177664:=rfl
 exact lp V9
theorem e6i(s:List UInt8)(M:Nat)(Q:List (List D))(N:Nat)(R:List (List D))(t:Int)(b:Bool)(i n:Int)(h:i<n)(h2:300<=i):a1n s M Q i n N t b R=a3m s M Q N t b R:=by
 have hroom:room=70368744177664:=rfl
 exact lp V9
theorem e6j(s:List UInt8)(M:Nat)(Q:List (List D))(N:Nat)(R:List (List D))(t:Int)(i n:Int)(h:i<n)(h2:i<300):a1n s M Q i n N t true R=a3m s M Q N t true R:=by
 have hroom:room=70368744177664:=rfl
 exact lp V9
theorem e6k(s:List UInt8)(M:Nat)(Q:List (List D))(N:Nat)(R:List (List D))(t i n:Int)(x1 x2:UInt8)(h:0<=i∧i<n∧n<=1000000000)(h2:i<300)(hN:R.length=N∧N<=100000)(hT:R.take N=R)(hl:0<=t∧t+2<=(s.length:Int)∧s.length<=1000000000)(hx: ∀h:t.toNat<s.length,s[t.toNat]'h=x1)(hy: ∀h:(t+1).toNat<s.length,s[(t+1).toNat]'h=x2):a1n s M Q i n N t false R=a1n s M Q (i+1) n (N+1) (t+2) false (R++[[.v (.int .i64 ((x1.toNat:Int))),.v (.int .i64 ((x2.toNat:Int)))]]):=by
 have hN2:=hN.1
 have u1:x1.toNat<256:=x1.toNat_lt
 have u2:x2.toNat<256:=x2.toNat_lt
 have hroom:room=70368744177664:=rfl
 exact lp V9
theorem c8i(s:List UInt8)(M:Nat)(Q:List (List D))(N:Nat)(R:List (List D))(t i n:Int)(h:0<=i∧i<n∧n<=1000000000)(h2:i<300)(hl:0<=t∧(s.length:Int)<t+2∧t<=s.length∧s.length<=1000000000):a1n s M Q i n N t false R=a3m s M Q N t true R:=by
 have hroom:room=70368744177664:=rfl
 exact lp V9
theorem e6l(s:List UInt8)(M:Nat)(Q:List (List D))(t:Int)(b:Bool)(i n:Int)(h:n<=i):a1o s M Q i n t b=a7t s M Q t b:=by
 have hroom:room=70368744177664:=rfl
 exact lp V9
theorem e6m(s:List UInt8)(M:Nat)(Q:List (List D))(t:Int)(i n:Int)(h:i<n)(h2:i<300):a1o s M Q i n t true=a7t s M Q t true:=by
 have hroom:room=70368744177664:=rfl
 exact lp V9
theorem e6n(s:List UInt8)(M:Nat)(Q:List (List D))(t i n:Int)(x1 x2:UInt8)(h:0<=i∧i<n∧n<=1000000000)(h2:i<300)(hl:0<=t∧t+2<=(s.length:Int)∧s.length<=1000000000)(hx: ∀h:t.toNat<s.length,s[t.toNat]'h=x1)(hy: ∀h:(t+1).toNat<s.length,s[(t+1).toNat]'h=x2):a1o s M Q i n t false=a1n s M Q (i+1) n 1 (t+2) false ([[.v (.int .i64 ((x1.toNat:Int))),.v (.int .i64 ((x2.toNat:Int)))]]):=by
 have u1:x1.toNat<256:=x1.toNat_lt
 have u2:x2.toNat<256:=x2.toNat_lt
 have hroom:room=70368744177664:=rfl
 exact lp V9
theorem c8j(s:List UInt8)(M:Nat)(Q:List (List D))(t i n:Int)(h:0<=i∧i<n∧n<=1000000000)(h2:i<300)(hl:0<=t∧(s.length:Int)<t+2∧t<=s.length∧s.length<=1000000000):a1o s M Q i n t false=a7t s M Q t true:=by
 have hroom:room=70368744177664:=rfl
 exact lp V9
end
end Go.Vsi
