/- What the functions of the program, of the reference and of the law do (a part of it). -/
import Derived.Test.YtbjkeppbogdgcaaGreatZY2
namespace Go.Vsi
open Go.Proofs
noncomputable section
set_option maxRecDepth 100000
set_option maxHeartbeats 4000000
set_option linter.unusedSimpArgs false
set_option linter.unusedVariables false
attribute [local go_sem ↓] v6
theorem a8p{α:Type}{l:List α}{n:Nat}{x:α}{r:List α}(h:l.drop n=x::r):l[n]?=some x∧l.drop (n+1)=r:=by
 have h1:(l.drop n)[0]?=some x:=by rw[h];rfl
 have h2:(l.drop n).drop 1=r:=by rw[h];rfl
 rw[List.getElem?_drop]at h1
 rw[List.drop_drop]at h2
 exact⟨by simpa using h1,h2⟩
theorem a7i(ys:List (List UInt8))(hx:ys.length<=1048576): ∀(m:Nat)(i k:Int),0<=i->i+m=ys.length->ys.drop i.toNat=mS m k->0<=k->k+(m:Int)<=1000000000->
 g8 Tryz.prog T1 (c6 Tryz.prog T1 L1) 28 (cq Tryz.f28 [0,0,1,0,1]) ⟨[.one (.c (.d (.sl 1 (rS ys)))),.one (.c (.d (.v (.int .i64 (k))))),J,J,J,.one (.c (.d (.v (.int .i64 (i))))),J,J,J,J,J,J,J,J,J,J,J,J,J,J,J,J],c7 [],0,0⟩=some (.exit 0,⟨[J,.one (.c (.d (.v (.int .i64 (k+(m:Int)))))),J,J,J,J,J,J,J,J,J,J,J,J,J,J,J,J,J,J,J,J],c7 [],0,0⟩)
 |0,i,k,hi,hm,hd,hk,hb=>by
  simp only[Int.natCast_zero,Int.mul_zero,Int.add_zero]
  clear hd
  exact lp V28
 |m+1,i,k,hi,hm,hd,hk,hb=>by
  obtain⟨hg,hd⟩:=a8p hd
  have ih:=a7i ys hx m (i+1) (k+1) (by omega) (by omega) (by rw[show(i+1).toNat=i.toNat+1 by omega];exact hd) (by omega) (by omega)
  have hg:(rS ys)[i.toNat]?=some [.v (.string (B (mT (k))))]:=by unfold rS;rw[List.getElem?_map,hg];rfl
  rw[show k+((m+1:Nat):Int)=k+1+(m:Int) by omega]
  have t0:=D5 (k) (by omega)
  rw[<-ih]
  clear ih hd
  exact lp V28
theorem i5(n:Nat)(k:Int)(hx:n<=1048576)(hk:0<=k)(hb:k+(n:Int)<=1000000000):c6 Tryz.prog T1 L1 28 [.c (.d (.sl 1 (rS (mS n k)))),.c (.d (.v (.int .i64 (k))))] []=some (.one (.c (.d (.v (.int .i64 (k+(n:Int)))))),[]):=by
 have hl:=b7o n k
 have Lp:=a7i (mS n k) (by omega) n 0 k (by omega) (by omega) rfl hk hb
 exact fn V28 Tryz.func28
theorem a8q(ys:List (i6))(hx:ys.length<=1048576): ∀(m:Nat)(i k:Int),0<=i->i+m=ys.length->ys.drop i.toNat=mIn m k->0<=k->k+2*(m:Int)<=1000000000->
 g8 Tryz.prog T1 (c6 Tryz.prog T1 L1) 50 (cq Tryz.f50 [0,0,1,0,1]) ⟨[.one (.c (.d (.sl 2 (g9 ys)))),.one (.c (.d (.v (.int .i64 (k))))),J,J,J,.one (.c (.d (.v (.int .i64 (i))))),J,J,J,J,J,J,J,J,J,J,J,J,J,J,J,J,J,J,J,J,J,J,J,J,J],c7 [],0,0⟩=some (.exit 0,⟨[J,.one (.c (.d (.v (.int .i64 (k+2*(m:Int)))))),J,J,J,J,J,J,J,J,J,J,J,J,J,J,J,J,J,J,J,J,J,J,J,J,J,J,J,J,J],c7 [],0,0⟩)
 |0,i,k,hi,hm,hd,hk,hb=>by
  simp only[Int.natCast_zero,Int.mul_zero,Int.add_zero]
  clear hd
  exact lp V50
 |m+1,i,k,hi,hm,hd,hk,hb=>by
  obtain⟨hg,hd⟩:=a8p hd
  have ih:=a8q ys hx m (i+1) (k+1+1) (by omega) (by omega) (by rw[show(i+1).toNat=i.toNat+1 by omega];exact hd) (by omega) (by omega)
  have hg:(g9 ys)[i.toNat]?=some [.v (.int .i64 (k)),.v (.int .i64 (k+1))]:=by unfold g9;rw[List.getElem?_map,hg];rfl
  rw[show k+2*((m+1:Nat):Int)=k+1+1+2*(m:Int) by omega]
  rw[<-ih]
  clear ih hd
  exact lp V50
theorem I5(n:Nat)(k:Int)(hx:n<=1048576)(hk:0<=k)(hb:k+2*(n:Int)<=1000000000):c6 Tryz.prog T1 L1 50 [.c (.d (.sl 2 (g9 (mIn n k)))),.c (.d (.v (.int .i64 (k))))] []=some (.one (.c (.d (.v (.int .i64 (k+2*(n:Int)))))),[]):=by
 have hl:=b3h n k
 have Lp:=a8q (mIn n k) (by omega) n 0 k (by omega) (by omega) rfl hk hb
 exact fn V50 Tryz.func50
theorem b1o(ys:List (v9))(hx:ys.length<=1048576): ∀(m:Nat)(i k:Int),0<=i->i+m=ys.length->ys.drop i.toNat=mV m k->0<=k->k+2*(m:Int)<=1000000000->
 g8 Tryz.prog T1 (c6 Tryz.prog T1 L1) 51 (cq Tryz.f51 [0,0,1,0,1]) ⟨[.one (.c (.d (.sl 2 (rV ys)))),.one (.c (.d (.v (.int .i64 (k))))),J,J,J,.one (.c (.d (.v (.int .i64 (i))))),J,J,J,J,J,J,J,J,J,J,J,J,J,J,J,J,J,J,J,J,J,J,J,J,J,J,J],c7 [],0,0⟩=some (.exit 0,⟨[J,.one (.c (.d (.v (.int .i64 (k+2*(m:Int)))))),J,J,J,J,J,J,J,J,J,J,J,J,J,J,J,J,J,J,J,J,J,J,J,J,J,J,J,J,J,J,J],c7 [],0,0⟩)
 |0,i,k,hi,hm,hd,hk,hb=>by
  simp only[Int.natCast_zero,Int.mul_zero,Int.add_zero]
  clear hd
  exact lp V51
 |m+1,i,k,hi,hm,hd,hk,hb=>by
  obtain⟨hg,hd⟩:=a8p hd
  have ih:=b1o ys hx m (i+1) (k+1+1) (by omega) (by omega) (by rw[show(i+1).toNat=i.toNat+1 by omega];exact hd) (by omega) (by omega)
  have hg:(rV ys)[i.toNat]?=some [.v (.string (B (mT (k)))),.v (.string (B (mT (k+1))))]:=by unfold rV;rw[List.getElem?_map,hg];rfl
  rw[show k+2*((m+1:Nat):Int)=k+1+1+2*(m:Int) by omega]
  have t0:=D5 (k) (by omega)
  have t1:=D5 (k+1) (by omega)
  rw[<-ih]
  clear ih hd
  exact lp V51
theorem N3(n:Nat)(k:Int)(hx:n<=1048576)(hk:0<=k)(hb:k+2*(n:Int)<=1000000000):c6 Tryz.prog T1 L1 51 [.c (.d (.sl 2 (rV (mV n k)))),.c (.d (.v (.int .i64 (k))))] []=some (.one (.c (.d (.v (.int .i64 (k+2*(n:Int)))))),[]):=by
 have hl:=b7p n k
 have Lp:=b1o (mV n k) (by omega) n 0 k (by omega) (by omega) rfl hk hb
 exact fn V51 Tryz.func51
theorem a9w(ys:List (q9))(hx:ys.length<=1048576): ∀(m:Nat)(i k:Int),0<=i->i+m=ys.length->ys.drop i.toNat=mC m k->0<=k->k+3*(m:Int)<=1000000000->
 g8 Tryz.prog T1 (c6 Tryz.prog T1 L1) 52 (cq Tryz.f52 [0,0,1,0,1]) ⟨[.one (.c (.d (.sl 3 (rC ys)))),.one (.c (.d (.v (.int .i64 (k))))),J,J,J,.one (.c (.d (.v (.int .i64 (i))))),J,J,J,J,J,J,J,J,J,J,J,J,J,J,J,J,J,J,J,J,J,J,J,J,J,J,J,J,J,J,J,J,J,J,J,J,J],c7 [],0,0⟩=some (.exit 0,⟨[J,.one (.c (.d (.v (.int .i64 (k+3*(m:Int)))))),J,J,J,J,J,J,J,J,J,J,J,J,J,J,J,J,J,J,J,J,J,J,J,J,J,J,J,J,J,J,J,J,J,J,J,J,J,J,J,J,J],c7 [],0,0⟩)
 |0,i,k,hi,hm,hd,hk,hb=>by
  simp only[Int.natCast_zero,Int.mul_zero,Int.add_zero]
  clear hd
  exact lp V52
 |m+1,i,k,hi,hm,hd,hk,hb=>by
  obtain⟨hg,hd⟩:=a8p hd
  have ih:=a9w ys hx m (i+1) (k+1+1+1) (by omega) (by omega) (by rw[show(i+1).toNat=i.toNat+1 by omega];exact hd) (by omega) (by omega)
  have hg:(rC ys)[i.toNat]?=some [.v (.string (B (mT (k)))),.v (.string (B (mT (k+1)))),.v (.string (B (mT (k+1+1))))]:=by unfold rC;rw[List.getElem?_map,hg];rfl
  rw[show k+3*((m+1:Nat):Int)=k+1+1+1+3*(m:Int) by omega]
  have t0:=D5 (k) (by omega)
  have t1:=D5 (k+1) (by omega)
  have t2:=D5 (k+1+1) (by omega)
  rw[<-ih]
  clear ih hd
  exact lp V52
theorem K3(n:Nat)(k:Int)(hx:n<=1048576)(hk:0<=k)(hb:k+3*(n:Int)<=1000000000):c6 Tryz.prog T1 L1 52 [.c (.d (.sl 3 (rC (mC n k)))),.c (.d (.v (.int .i64 (k))))] []=some (.one (.c (.d (.v (.int .i64 (k+3*(n:Int)))))),[]):=by
 have hl:=b7q n k
 have Lp:=a9w (mC n k) (by omega) n 0 k (by omega) (by omega) rfl hk hb
 exact fn V52 Tryz.func52
theorem A0(xs:List (List UInt8))(k:Int)(hx:xs=[]):c6 Tryz.prog T1 L1 28 [.c (.d (.v (.slice none 0 0))),.c (.d (.v (.int .i64 (k))))] []=some (.one (.c (.d (.v (.int .i64 (k+(xs.length:Int)))))),[]):=by
 have h:g8 Tryz.prog T1 (c6 Tryz.prog T1 L1) 28 (cq Tryz.f28 [0,0,1,0,1]) ⟨[.one (.c (.d (.v (.slice none 0 0)))),.one (.c (.d (.v (.int .i64 (k))))),J,J,J,.one (.c (.d (.v (.int .i64 (0))))),J,J,J,J,J,J,J,J,J,J,J,J,J,J,J,J],c7 [],0,0⟩=some (.exit 0,⟨[J,.one (.c (.d (.v (.int .i64 (k))))),J,J,J,J,J,J,J,J,J,J,J,J,J,J,J,J,J,J,J,J],c7 [],0,0⟩):=by
  exact lp V28
 rw[hx,show k+((([]:List (List UInt8)).length:Nat):Int)=k by simp]
 clear hx
 exact fn V28 Tryz.func28
theorem D7(xs:List i6)(k:Int)(hx:xs=[]):c6 Tryz.prog T1 L1 50 [.c (.d (.v (.slice none 0 0))),.c (.d (.v (.int .i64 (k))))] []=some (.one (.c (.d (.v (.int .i64 (k+2*(xs.length:Int)))))),[]):=by
 have h:g8 Tryz.prog T1 (c6 Tryz.prog T1 L1) 50 (cq Tryz.f50 [0,0,1,0,1]) ⟨[.one (.c (.d (.v (.slice none 0 0)))),.one (.c (.d (.v (.int .i64 (k))))),J,J,J,.one (.c (.d (.v (.int .i64 (0))))),J,J,J,J,J,J,J,J,J,J,J,J,J,J,J,J,J,J,J,J,J,J,J,J,J],c7 [],0,0⟩=some (.exit 0,⟨[J,.one (.c (.d (.v (.int .i64 (k))))),J,J,J,J,J,J,J,J,J,J,J,J,J,J,J,J,J,J,J,J,J,J,J,J,J,J,J,J,J],c7 [],0,0⟩):=by
  exact lp V50
 rw[hx,show k+2*((([]:List i6).length:Nat):Int)=k by simp]
 clear hx
 exact fn V50 Tryz.func50
theorem I0(xs:List v9)(k:Int)(hx:xs=[]):c6 Tryz.prog T1 L1 51 [.c (.d (.v (.slice none 0 0))),.c (.d (.v (.int .i64 (k))))] []=some (.one (.c (.d (.v (.int .i64 (k+2*(xs.length:Int)))))),[]):=by
 have h:g8 Tryz.prog T1 (c6 Tryz.prog T1 L1) 51 (cq Tryz.f51 [0,0,1,0,1]) ⟨[.one (.c (.d (.v (.slice none 0 0)))),.one (.c (.d (.v (.int .i64 (k))))),J,J,J,.one (.c (.d (.v (.int .i64 (0))))),J,J,J,J,J,J,J,J,J,J,J,J,J,J,J,J,J,J,J,J,J,J,J,J,J,J,J],c7 [],0,0⟩=some (.exit 0,⟨[J,.one (.c (.d (.v (.int .i64 (k))))),J,J,J,J,J,J,J,J,J,J,J,J,J,J,J,J,J,J,J,J,J,J,J,J,J,J,J,J,J,J,J],c7 [],0,0⟩):=by
  exact lp V51
 rw[hx,show k+2*((([]:List v9).length:Nat):Int)=k by simp]
 clear hx
 exact fn V51 Tryz.func51
theorem G5(xs:List q9)(k:Int)(hx:xs=[]):c6 Tryz.prog T1 L1 52 [.c (.d (.v (.slice none 0 0))),.c (.d (.v (.int .i64 (k))))] []=some (.one (.c (.d (.v (.int .i64 (k+3*(xs.length:Int)))))),[]):=by
 have h:g8 Tryz.prog T1 (c6 Tryz.prog T1 L1) 52 (cq Tryz.f52 [0,0,1,0,1]) ⟨[.one (.c (.d (.v (.slice none 0 0)))),.one (.c (.d (.v (.int .i64 (k))))),J,J,J,.one (.c (.d (.v (.int .i64 (0))))),J,J,J,J,J,J,J,J,J,J,J,J,J,J,J,J,J,J,J,J,J,J,J,J,J,J,J,J,J,J,J,J,J,J,J,J,J],c7 [],0,0⟩=some (.exit 0,⟨[J,.one (.c (.d (.v (.int .i64 (k))))),J,J,J,J,J,J,J,J,J,J,J,J,J,J,J,J,J,J,J,J,J,J,J,J,J,J,J,J,J,J,J,J,J,J,J,J,J,J,J,J,J],c7 [],0,0⟩):=by
  exact lp V52
 rw[hx,show k+3*((([]:List q9).length:Nat):Int)=k by simp]
 clear hx
 exact fn V52 Tryz.func52
theorem d1b(a b:D)(x y z k k1 k2:Int)(h1:c6 Tryz.prog T1 L1 28 [.c (.d a),.c (.d (.v (.int .i64 (k))))] []=some (.one (.c (.d (.v (.int .i64 (k1))))),[]))(h2:c6 Tryz.prog T1 L1 50 [.c (.d b),.c (.d (.v (.int .i64 (k1))))] []=some (.one (.c (.d (.v (.int .i64 (k2))))),[]))(p1:0<=k1)(p2:0<=k2):c6 Tryz.prog T1 L1 26 [.agg [.d a,.d b,.d (.v (.int .i64 (x))),.d (.v (.int .i64 (y))),.d (.v (.int .i64 (z)))],.c (.d (.v (.int .i64 (k))))] []=some (.one (.c (.d (.v (.int .i64 (k2))))),[]):=by
 exact fn V26 Tryz.func26
theorem c5w(a b:D)(o:List UInt8)(k k1 k2:Int)(h1:c6 Tryz.prog T1 L1 51 [.c (.d a),.c (.d (.v (.int .i64 (k))))] []=some (.one (.c (.d (.v (.int .i64 (k1))))),[]))(h2:c6 Tryz.prog T1 L1 52 [.c (.d b),.c (.d (.v (.int .i64 (k1))))] []=some (.one (.c (.d (.v (.int .i64 (k2))))),[]))(p1:0<=k1)(p2:0<=k2):c6 Tryz.prog T1 L1 27 [.agg [.d a,.d b,.d (.v (.string (B (o))))],.c (.d (.v (.int .i64 (k))))] []=some (.one (.c (.d (.v (.int .i64 (k2))))),[]):=by
 exact fn V27 Tryz.func27
theorem A9(a b c d e f:D)(x y z:Int)(o:List UInt8)(k k1 k2 k3 k4 k5 k6:Int)(h1:c6 Tryz.prog T1 L1 28 [.c (.d a),.c (.d (.v (.int .i64 (k))))] []=some (.one (.c (.d (.v (.int .i64 (k1))))),[]))(h2:c6 Tryz.prog T1 L1 50 [.c (.d b),.c (.d (.v (.int .i64 (k1))))] []=some (.one (.c (.d (.v (.int .i64 (k2))))),[]))(h3:c6 Tryz.prog T1 L1 51 [.c (.d c),.c (.d (.v (.int .i64 (k2))))] []=some (.one (.c (.d (.v (.int .i64 (k3))))),[]))(h4:c6 Tryz.prog T1 L1 52 [.c (.d d),.c (.d (.v (.int .i64 (k3))))] []=some (.one (.c (.d (.v (.int .i64 (k4))))),[]))(h5:c6 Tryz.prog T1 L1 28 [.c (.d e),.c (.d (.v (.int .i64 (k4))))] []=some (.one (.c (.d (.v (.int .i64 (k5))))),[]))(h6:c6 Tryz.prog T1 L1 28 [.c (.d f),.c (.d (.v (.int .i64 (k5))))] []=some (.one (.c (.d (.v (.int .i64 (k6))))),[]))(p1:0<=k1)(p2:0<=k2)(p3:0<=k3)(p4:0<=k4)(p5:0<=k5)(p6:0<=k6):c6 Tryz.prog T1 L1 8 [.agg [.d a,.d b,.d (.v (.int .i64 (x))),.d (.v (.int .i64 (y))),.d (.v (.int .i64 (z))),.d c,.d d,.d (.v (.string (B (o)))),.d e,.d f],.c (.d (.v (.int .i64 (k))))] []=some (.one (.c (.d (.v (.int .i64 (k6))))),[]):=by
 have e1:=d1b a b x y z k k1 k2 h1 h2 p1 p2
 have e2:=c5w c d o k2 k3 k4 h3 h4 p3 p4
 clear h1 h2 h3 h4
 exact fn V8 Tryz.func8
end
end Go.Vsi
namespace Go.Vsi
open Go.Proofs
noncomputable section
set_option maxRecDepth 100000
set_option maxHeartbeats 4000000
set_option linter.unusedSimpArgs false
set_option linter.unusedVariables false
attribute [local go_sem ↓] v6
theorem a4m(x:n8)(k:Int)(hx:x.Texts.length<=1000∧x.List.length<=1000)(hk:0<=k∧k<=1000000):c6 Tryz.prog T1 L1 23 [.agg [.arr 0 0 x.Texts.length,.arr 1 0 x.List.length,.d (.v (.int .i64 (x.Begin))),.d (.v (.int .i64 (x.Line))),.d (.v (.int .i64 (x.End)))],.c (.d (.v (.int .i64 (k))))] [some (.arr 1 (rS x.Texts)),some (.arr 2 (g9 x.List))]=some (.one (.c (.d (.v (.int .i64 (k+(x.Texts.length:Int)+2*(x.List.length:Int)))))),[some (.arr 1 (rS (mS x.Texts.length k))),some (.arr 2 (g9 (mIn x.List.length (k+(x.Texts.length:Int)))))]):=by
 have m1:=i9 x.Texts k (by omega) (by omega) (by omega)
 have m2:=b1l x.List (k+(x.Texts.length:Int)) (by omega) (by omega) (by omega)
 skip
 skip
 exact fn V23 Tryz.func23
theorem a3b(x:s8)(k:Int)(hx:x.Vars.length<=1000∧x.Cells.length<=10000)(hk:0<=k∧k<=1000000):c6 Tryz.prog T1 L1 24 [.agg [.arr 0 0 x.Vars.length,.arr 1 0 x.Cells.length,.d (.v (.string (B (x.Out))))],.c (.d (.v (.int .i64 (k))))] [some (.arr 2 (rV x.Vars)),some (.arr 3 (rC x.Cells))]=some (.one (.c (.d (.v (.int .i64 (k+2*(x.Vars.length:Int)+3*(x.Cells.length:Int)))))),[some (.arr 2 (rV (mV x.Vars.length k))),some (.arr 3 (rC (mC x.Cells.length (k+2*(x.Vars.length:Int)))))]):=by
 have m1:=b4k x.Vars k (by omega) (by omega) (by omega)
 have m2:=b2m x.Cells (k+2*(x.Vars.length:Int)) (by omega) (by omega) (by omega)
 skip
 skip
 exact fn V24 Tryz.func24
theorem a4n(x:n8)(k:Int)(hx:x.Texts.length<=1000∧x.List.length<=1000)(hk:0<=k∧k<=1000000)(e2:x.List=[]):c6 Tryz.prog T1 L1 23 [.agg [.arr 0 0 x.Texts.length,.d (.v (.slice none 0 0)),.d (.v (.int .i64 (x.Begin))),.d (.v (.int .i64 (x.Line))),.d (.v (.int .i64 (x.End)))],.c (.d (.v (.int .i64 (k))))] [some (.arr 1 (rS x.Texts))]=some (.one (.c (.d (.v (.int .i64 (k+(x.Texts.length:Int)+2*(x.List.length:Int)))))),[some (.arr 1 (rS (mS x.Texts.length k)))]):=by
 have m1:=i9 x.Texts k (by omega) (by omega) (by omega)
 have m2:=a9v x.List (k+(x.Texts.length:Int)) e2
 skip
 clear e2
 exact fn V23 Tryz.func23
theorem a3c(x:s8)(k:Int)(hx:x.Vars.length<=1000∧x.Cells.length<=10000)(hk:0<=k∧k<=1000000)(e2:x.Cells=[]):c6 Tryz.prog T1 L1 24 [.agg [.arr 0 0 x.Vars.length,.d (.v (.slice none 0 0)),.d (.v (.string (B (x.Out))))],.c (.d (.v (.int .i64 (k))))] [some (.arr 2 (rV x.Vars))]=some (.one (.c (.d (.v (.int .i64 (k+2*(x.Vars.length:Int)+3*(x.Cells.length:Int)))))),[some (.arr 2 (rV (mV x.Vars.length k)))]):=by
 have m1:=b4k x.Vars k (by omega) (by omega) (by omega)
 have m2:=b1n x.Cells (k+2*(x.Vars.length:Int)) e2
 skip
 clear e2
 exact fn V24 Tryz.func24
theorem a4o(x:n8)(k:Int)(hx:x.Texts.length<=1000∧x.List.length<=1000)(hk:0<=k∧k<=1000000)(e1:x.Texts=[]):c6 Tryz.prog T1 L1 23 [.agg [.d (.v (.slice none 0 0)),.arr 0 0 x.List.length,.d (.v (.int .i64 (x.Begin))),.d (.v (.int .i64 (x.Line))),.d (.v (.int .i64 (x.End)))],.c (.d (.v (.int .i64 (k))))] [some (.arr 2 (g9 x.List))]=some (.one (.c (.d (.v (.int .i64 (k+(x.Texts.length:Int)+2*(x.List.length:Int)))))),[some (.arr 2 (g9 (mIn x.List.length (k+(x.Texts.length:Int)))))]):=by
 have m1:=Y7 x.Texts k e1
 have m2:=b1l x.List (k+(x.Texts.length:Int)) (by omega) (by omega) (by omega)
 clear e1
 skip
 exact fn V23 Tryz.func23
theorem a3d(x:s8)(k:Int)(hx:x.Vars.length<=1000∧x.Cells.length<=10000)(hk:0<=k∧k<=1000000)(e1:x.Vars=[]):c6 Tryz.prog T1 L1 24 [.agg [.d (.v (.slice none 0 0)),.arr 0 0 x.Cells.length,.d (.v (.string (B (x.Out))))],.c (.d (.v (.int .i64 (k))))] [some (.arr 3 (rC x.Cells))]=some (.one (.c (.d (.v (.int .i64 (k+2*(x.Vars.length:Int)+3*(x.Cells.length:Int)))))),[some (.arr 3 (rC (mC x.Cells.length (k+2*(x.Vars.length:Int)))))]):=by
 have m1:=b2n x.Vars k e1
 have m2:=b2m x.Cells (k+2*(x.Vars.length:Int)) (by omega) (by omega) (by omega)
 clear e1
 skip
 exact fn V24 Tryz.func24
theorem a1h(x:n8)(k:Int)(hx:x.Texts.length<=1000∧x.List.length<=1000)(hk:0<=k∧k<=1000000)(e1:x.Texts=[])(e2:x.List=[]):c6 Tryz.prog T1 L1 23 [.agg [.d (.v (.slice none 0 0)),.d (.v (.slice none 0 0)),.d (.v (.int .i64 (x.Begin))),.d (.v (.int .i64 (x.Line))),.d (.v (.int .i64 (x.End)))],.c (.d (.v (.int .i64 (k))))] []=some (.one (.c (.d (.v (.int .i64 (k+(x.Texts.length:Int)+2*(x.List.length:Int)))))),[]):=by
 have m1:=Y7 x.Texts k e1
 have m2:=a9v x.List (k+(x.Texts.length:Int)) e2
 clear e1
 clear e2
 exact fn V23 Tryz.func23
theorem a0f(x:s8)(k:Int)(hx:x.Vars.length<=1000∧x.Cells.length<=10000)(hk:0<=k∧k<=1000000)(e1:x.Vars=[])(e2:x.Cells=[]):c6 Tryz.prog T1 L1 24 [.agg [.d (.v (.slice none 0 0)),.d (.v (.slice none 0 0)),.d (.v (.string (B (x.Out))))],.c (.d (.v (.int .i64 (k))))] []=some (.one (.c (.d (.v (.int .i64 (k+2*(x.Vars.length:Int)+3*(x.Cells.length:Int)))))),[]):=by
 have m1:=b2n x.Vars k e1
 have m2:=b1n x.Cells (k+2*(x.Vars.length:Int)) e2
 clear e1
 clear e2
 exact fn V24 Tryz.func24
end
end Go.Vsi
