/- What the functions of the program, of the reference and of the law do (a part of it). -/
import Derived.Test.YtbjkeppbogdgcaaGreatZY1
namespace Go.Vsi
open Go.Proofs
noncomputable section
set_option maxRecDepth 100000
set_option maxHeartbeats 4000000
set_option linter.unusedSimpArgs false
set_option linter.unusedVariables false
attribute [local go_sem ↓] v6
attribute [go_sem] true_or or_true false_or or_false
theorem Q9(a b c:Int):c6 Tryz.prog T1 L1 58 [.c (.d (.v (.int .i64 (a)))),.c (.d (.v (.int .i64 (b)))),.c (.d (.v (.int .i64 (c))))] []=some (.one (.c (.d (.v (.bool (decide (b<=a∧a<=c)))))),[]):=a4l (A7 a b c) rfl
theorem b3j(a b c:Int):c6 Tryz.prog T1 L1 55 [.c (.d (.v (.int .i64 (a)))),.c (.d (.v (.int .i64 (b)))),.c (.d (.v (.int .i64 (c))))] []=some (.one (.c (.d (.v (.bool (decide (b<=a∧a<=c)))))),[]):=a4l (a4i a b c) rfl
theorem e4s(b:Bool):c6 Tryz.prog T1 L1 80 [.c (.d (.v (.bool (b))))] []=some (.one (.c (.d (.v (.int .i64 (if b=true then 1 else 0))))),[]):=a4l (e3k b) rfl
def nmB(s:List UInt8):Bool:=s.all (fun b=>a1q b)&&decide (1<=(s.length:Int)∧(s.length:Int)<=8)
theorem T5(s:List UInt8)(hm:s.length<=maxLen):c6 Tryz.prog T1 L1 42 [.c (.d (.v (.string (B (s)))))] []=some (.one (.c (.d (.v (.bool (nmB s))))),[]):=a4l (c3f s hm) rfl
theorem d5b(b:UInt8):c6 Tryz.prog T1 L1 67 [.c (.d (.v (.int .u8 ((b.toNat:Int)))))] []=some (.one (.c (.d (.v (.bool (a1q b))))),[]):=a4l (c3e b) rfl
def C5(f:FuncId)(rd:List UInt8->Bool):Prop:= ∀s:List UInt8,s.length<=maxLen-> ∃d:D,c6 Tryz.prog T1 L1 f [.c (.d (.v (.string (B (s)))))] []=some (.tup [.agg [.d d],.c (.d (.v (.bool (rd s))))],[])
theorem d9m{rd:List UInt8->Bool}(h:c1o 78 rd):C5 78 rd:=fun s hs=>by
 obtain⟨d,e⟩:=h s hs
 exact⟨d,a4l e rfl⟩
theorem d9n{rd:List UInt8->Bool}(h:c1o 82 rd):C5 82 rd:=fun s hs=>by
 obtain⟨d,e⟩:=h s hs
 exact⟨d,a4l e rfl⟩
def a2a(op:Int):Bool:=f8 op 2||f8 op 3||decide (17<=op∧op<=20)||f8 op 24
def a4c(op:Int):Bool:=f8 op 1||f8 op 15||a2a op
theorem b7r(op:Int):c6 Tryz.prog T1 L1 79 [.c (.d (.v (.int .i64 (op))))] []=some (.one (.c (.d (.v (.bool (a2a op))))),[]):=by
 have h:=Q9 op 17 20
 unfold a2a
 generalize decide (17<=op∧op<=20)=q at h⊢
 cases q
 ·
  exact fn V79 Tryz.func79
 ·
  exact fn V79 Tryz.func79
theorem d1c(op:Int):c6 Tryz.prog T1 L1 77 [.c (.d (.v (.int .i64 (op))))] []=some (.one (.c (.d (.v (.bool (a4c op))))),[]):=by
 have h:=b7r op
 unfold a4c
 generalize a2a op=q at h⊢
 cases q
 ·
  exact fn V77 Tryz.func77
 ·
  exact fn V77 Tryz.func77
def tk1(op:Int):Bool:=f8 op 3||f8 op 4||f8 op 7||f8 op 15||f8 op 17||f8 op 18||f8 op 21
def tk2(op:Int):Bool:=f8 op 8||f8 op 9||f8 op 10||f8 op 11||f8 op 12||f8 op 13||f8 op 14||f8 op 19||f8 op 20
def tk(op a:Int):Int:=if tk1 op=true then 1 else if tk2 op=true then 2 else if f8 op 16=true then a else 0
def pt(op:Int):Int:=if decide (1<=op∧op<=15)=true then 1 else 0
theorem d1d(op a:Int):c6 Tryz.prog T1 L1 71 [.agg [.d (.v (.int .i64 (op))),.d (.v (.int .i64 (a)))]] []=some (.one (.c (.d (.v (.int .i64 (tk op a))))),[]):=by
 unfold tk tk1 tk2
 exact fn V71 Tryz.func71
theorem d5c(op a:Int):c6 Tryz.prog T1 L1 72 [.agg [.d (.v (.int .i64 (op))),.d (.v (.int .i64 (a)))]] []=some (.one (.c (.d (.v (.int .i64 (pt op))))),[]):=by
 have h:=Q9 op 1 15
 unfold pt
 generalize decide (1<=op∧op<=15)=q at h⊢
 have h2:=e4s q
 exact fn V72 Tryz.func72
def a9b(rd:List UInt8->Bool)(Ts:List (List UInt8))(op a i e:Int):Bool:=
 if a4c op=true then decide (0<=a∧a<=(Ts.length:Int)-1)&&((!f8 op 15)||rd (Ts.getD a.toNat []))&&((!a2a op)||nmB (Ts.getD a.toNat []))
 else if f8 op 16=true then decide (1<=a∧a<=4)
 else if(f8 op 21||f8 op 22)=true then decide (i+1<=a∧a<=e)
 else f8 a 0
theorem b5p(Ts:List (List UInt8))(a:Int)(h:0<=a∧a<(Ts.length:Int)):Ts[a.toNat]?=some (Ts.getD a.toNat []):=by
 rw[List.getD_eq_getElem?_getD,List.getElem?_eq_getElem (by omega)];rfl
theorem c7w(Ts:List (List UInt8))(a:Int)(h:0<=a∧a<(Ts.length:Int)):(rS Ts)[a.toNat]?=some [.v (.string (B (Ts.getD a.toNat [])))]:=by
 unfold rS
 rw[List.getElem?_map,b5p Ts a h];rfl
theorem d1e(rd:List UInt8->Bool)(hR:C5 78 rd)(c:n8)(p:Bool)(op a:Int)(i e:Int)(hT: ∀t∈c.Texts,t.length<=1000000000)(hl:c.Texts.length<=1000000)(hi:0<=i∧i<1000000)(hg:(g9 c.List)[i.toNat]?=some [.v (.int .i64 (op)),.v (.int .i64 (a))]):c6 Tryz.prog T1 L1 70 [.agg [.d (c8 p 1 (rS c.Texts)),.d (.sl 2 (g9 c.List)),.d (.v (.int .i64 (c.Begin))),.d (.v (.int .i64 (c.Line))),.d (.v (.int .i64 (c.End)))],.c (.d (.v (.int .i64 (i)))),.c (.d (.v (.int .i64 (e))))] []=some (.one (.c (.d (.v (.bool (a9b rd c.Texts op a i e))))),[]):=by
 have h1:=d1c op
 have h2:=b7r op
 have h3:=Q9 a 0 ((c.Texts.length:Int)-1)
 have h4:=Q9 a 1 4
 have h5:=Q9 a (i+1) e
 unfold a9b
 generalize a4c op=q1 at h1⊢
 generalize a2a op=q2 at h2⊢
 cases q1 with
 |true=>
  by_cases ha:0<=a∧a<=(c.Texts.length:Int)-1
  ·rw[decide_eq_true ha]at h3⊢
   have h6:=c7w c.Texts a (by omega)
   have hm:(c.Texts.getD a.toNat []).length<=maxLen:=by
    have:=hT _ (List.mem_of_getElem? (b5p c.Texts a (by omega)))
    have:maxLen=9223372036854775807:=rfl
    omega
   obtain⟨d,h7⟩:=hR _ hm
   have h8:=T5 _ hm
   have hd:=o7 p 1 (rS c.Texts) (fun h=>by rw[h]at h6;simp at h6)
   generalize c.Texts.getD a.toNat []=t at h6 h7 h8⊢
   generalize rd t=q3 at h7⊢
   generalize nmB t=q4 at h8⊢
   rw[hd]
   clear hR hT h4 h5 hd
   cases q2<;>cases q3<;>cases q4
   all_goals
    exact fn V70 Tryz.func70
  ·rw[decide_eq_false ha]at h3⊢
   clear hR hT h4 h5
   cases q2
   all_goals
    exact fn V70 Tryz.func70
 |false=>
  generalize decide (1<=a∧a<=4)=q5 at h4⊢
  generalize decide (i+1<=a∧a<=e)=q6 at h5⊢
  clear hR hT h3
  exact fn V70 Tryz.func70
end
end Go.Vsi
namespace Go.Vsi
open Go.Proofs
noncomputable section
set_option maxRecDepth 100000
set_option maxHeartbeats 4000000
set_option linter.unusedSimpArgs false
set_option linter.unusedVariables false
attribute [local go_sem ↓] v6
theorem b2o(s:List UInt8)(hm:s.length<=maxLen): ∀(n:Nat)(i:Int),0<=i->i+n=s.length->
 g8 Tryz.prog T1 (c6 Tryz.prog T1 L1) 56 (cq Tryz.f56 [0,0,1,0,1]) ⟨[.one (.c (.d (.v (.string (B (s)))))),J,J,.one (.c (.d (.v (.int .i64 (i))))),J,J,J,J,J,J,J,J,J,J,J,J,J,J],c7 [],0,0⟩=
  if(s.drop i.toNat).all (fun b=>a1q b)=true then some (.exit 0,⟨[.one (.c (.d (.v (.string (B (s)))))),J,J,J,J,J,J,J,J,J,J,J,J,J,J,J,J,J],c7 [],0,0⟩)else some (.ret,⟨[.one (.c (.d (.v (.string (B (s)))))),J,.one (.c (.d (.v (.bool (false))))),J,J,J,J,J,J,J,J,J,J,J,J,J,J,J],c7 [],0,0⟩)
 |0,i,h0,hn=>by
  have:maxLen=9223372036854775807:=rfl
  have e:(s.drop i.toNat).all (fun b=>a1q b)=true:=by rw[b0z s i (by omega)];rfl
  rw[if_pos e]
  clear e
  exact lp V56
 |n+1,i,h0,hn=>by
  have:maxLen=9223372036854775807:=rfl
  have ih:=b2o s hm n (i+1) (by omega) (by omega)
  have h1:=d5b (s[i.toNat]'(by omega))
  rw[b3c s i (by omega),List.all_cons]
  generalize a1q (s[i.toNat]'(by omega))=q at h1⊢
  cases q with
  |true=>
   rw[Bool.true_and,<-ih]
   clear ih
   exact lp V56
  |false=>
   rw[Bool.false_and,if_neg (by simp)]
   clear ih
   exact lp V56
theorem a0n(s:List UInt8)(hm:s.length<=maxLen):c6 Tryz.prog T1 L1 56 [.c (.d (.v (.string (B (s)))))] []=some (.one (.c (.d (.v (.bool (nmB s))))),[]):=by
 have L:=b2o s hm s.length 0 (by omega) (by omega)
 have h1:=b3j (s.length:Int) 1 8
 unfold nmB
 rw[Int.toNat_zero,List.drop_zero]at L
 generalize decide (1<=(s.length:Int)∧(s.length:Int)<=8)=q2 at h1⊢
 cases hq:s.all (fun b=>a1q b)with
 |true=>
  rw[if_pos hq]at L
  clear hq
  exact fn V56 Tryz.func56
 |false=>
  rw[if_neg (by rw[hq];simp)]at L
  clear hq
  exact fn V56 Tryz.func56
theorem c3q{op:Int}(h:1<=op∧op<=24):op=1∨op=2∨op=3∨op=4∨op=5∨op=6∨op=7∨op=8∨op=9∨op=10∨op=11∨op=12∨op=13∨op=14∨op=15∨op=16∨op=17∨op=18∨op=19∨op=20∨op=21∨op=22∨op=23∨op=24:=by omega
theorem d1f(a:Int):c6 Tryz.prog T1 L1 75 [.agg [.d (.v (.int .i64 (1))),.d (.v (.int .i64 (a)))]] []=some (.tup [.c (.d (.v (.int .i64 (0)))),.c (.d (.v (.int .i64 (1))))],[]):=by
 exact fn W7 Tryz.func75
theorem d1g(a:Int):c6 Tryz.prog T1 L1 75 [.agg [.d (.v (.int .i64 (2))),.d (.v (.int .i64 (a)))]] []=some (.tup [.c (.d (.v (.int .i64 (0)))),.c (.d (.v (.int .i64 (1))))],[]):=by
 exact fn W7 Tryz.func75
theorem d1h(a:Int):c6 Tryz.prog T1 L1 75 [.agg [.d (.v (.int .i64 (3))),.d (.v (.int .i64 (a)))]] []=some (.tup [.c (.d (.v (.int .i64 (1)))),.c (.d (.v (.int .i64 (1))))],[]):=by
 exact fn W7 Tryz.func75
theorem d1i(a:Int):c6 Tryz.prog T1 L1 75 [.agg [.d (.v (.int .i64 (4))),.d (.v (.int .i64 (a)))]] []=some (.tup [.c (.d (.v (.int .i64 (1)))),.c (.d (.v (.int .i64 (1))))],[]):=by
 exact fn W7 Tryz.func75
theorem d1j(a:Int):c6 Tryz.prog T1 L1 75 [.agg [.d (.v (.int .i64 (5))),.d (.v (.int .i64 (a)))]] []=some (.tup [.c (.d (.v (.int .i64 (0)))),.c (.d (.v (.int .i64 (1))))],[]):=by
 exact fn W7 Tryz.func75
theorem d1k(a:Int):c6 Tryz.prog T1 L1 75 [.agg [.d (.v (.int .i64 (6))),.d (.v (.int .i64 (a)))]] []=some (.tup [.c (.d (.v (.int .i64 (0)))),.c (.d (.v (.int .i64 (1))))],[]):=by
 exact fn W7 Tryz.func75
theorem d1l(a:Int):c6 Tryz.prog T1 L1 75 [.agg [.d (.v (.int .i64 (7))),.d (.v (.int .i64 (a)))]] []=some (.tup [.c (.d (.v (.int .i64 (1)))),.c (.d (.v (.int .i64 (1))))],[]):=by
 exact fn W7 Tryz.func75
theorem d1m(a:Int):c6 Tryz.prog T1 L1 75 [.agg [.d (.v (.int .i64 (8))),.d (.v (.int .i64 (a)))]] []=some (.tup [.c (.d (.v (.int .i64 (2)))),.c (.d (.v (.int .i64 (1))))],[]):=by
 exact fn W7 Tryz.func75
theorem d1n(a:Int):c6 Tryz.prog T1 L1 75 [.agg [.d (.v (.int .i64 (9))),.d (.v (.int .i64 (a)))]] []=some (.tup [.c (.d (.v (.int .i64 (2)))),.c (.d (.v (.int .i64 (1))))],[]):=by
 exact fn W7 Tryz.func75
theorem c5z(a:Int):c6 Tryz.prog T1 L1 75 [.agg [.d (.v (.int .i64 (10))),.d (.v (.int .i64 (a)))]] []=some (.tup [.c (.d (.v (.int .i64 (2)))),.c (.d (.v (.int .i64 (1))))],[]):=by
 exact fn W7 Tryz.func75
theorem c6a(a:Int):c6 Tryz.prog T1 L1 75 [.agg [.d (.v (.int .i64 (11))),.d (.v (.int .i64 (a)))]] []=some (.tup [.c (.d (.v (.int .i64 (2)))),.c (.d (.v (.int .i64 (1))))],[]):=by
 exact fn W7 Tryz.func75
theorem c6b(a:Int):c6 Tryz.prog T1 L1 75 [.agg [.d (.v (.int .i64 (12))),.d (.v (.int .i64 (a)))]] []=some (.tup [.c (.d (.v (.int .i64 (2)))),.c (.d (.v (.int .i64 (1))))],[]):=by
 exact fn W7 Tryz.func75
theorem c6c(a:Int):c6 Tryz.prog T1 L1 75 [.agg [.d (.v (.int .i64 (13))),.d (.v (.int .i64 (a)))]] []=some (.tup [.c (.d (.v (.int .i64 (2)))),.c (.d (.v (.int .i64 (1))))],[]):=by
 exact fn W7 Tryz.func75
theorem c6d(a:Int):c6 Tryz.prog T1 L1 75 [.agg [.d (.v (.int .i64 (14))),.d (.v (.int .i64 (a)))]] []=some (.tup [.c (.d (.v (.int .i64 (2)))),.c (.d (.v (.int .i64 (1))))],[]):=by
 exact fn W7 Tryz.func75
theorem c6e(a:Int):c6 Tryz.prog T1 L1 75 [.agg [.d (.v (.int .i64 (15))),.d (.v (.int .i64 (a)))]] []=some (.tup [.c (.d (.v (.int .i64 (1)))),.c (.d (.v (.int .i64 (1))))],[]):=by
 exact fn W7 Tryz.func75
theorem c6f(a:Int):c6 Tryz.prog T1 L1 75 [.agg [.d (.v (.int .i64 (16))),.d (.v (.int .i64 (a)))]] []=some (.tup [.c (.d (.v (.int .i64 (a)))),.c (.d (.v (.int .i64 (0))))],[]):=by
 exact fn W7 Tryz.func75
theorem c6g(a:Int):c6 Tryz.prog T1 L1 75 [.agg [.d (.v (.int .i64 (17))),.d (.v (.int .i64 (a)))]] []=some (.tup [.c (.d (.v (.int .i64 (1)))),.c (.d (.v (.int .i64 (0))))],[]):=by
 exact fn W7 Tryz.func75
theorem c6h(a:Int):c6 Tryz.prog T1 L1 75 [.agg [.d (.v (.int .i64 (18))),.d (.v (.int .i64 (a)))]] []=some (.tup [.c (.d (.v (.int .i64 (1)))),.c (.d (.v (.int .i64 (0))))],[]):=by
 exact fn W7 Tryz.func75
theorem c6i(a:Int):c6 Tryz.prog T1 L1 75 [.agg [.d (.v (.int .i64 (19))),.d (.v (.int .i64 (a)))]] []=some (.tup [.c (.d (.v (.int .i64 (2)))),.c (.d (.v (.int .i64 (0))))],[]):=by
 exact fn W7 Tryz.func75
theorem c6j(a:Int):c6 Tryz.prog T1 L1 75 [.agg [.d (.v (.int .i64 (20))),.d (.v (.int .i64 (a)))]] []=some (.tup [.c (.d (.v (.int .i64 (2)))),.c (.d (.v (.int .i64 (0))))],[]):=by
 exact fn W7 Tryz.func75
theorem c6k(a:Int):c6 Tryz.prog T1 L1 75 [.agg [.d (.v (.int .i64 (21))),.d (.v (.int .i64 (a)))]] []=some (.tup [.c (.d (.v (.int .i64 (1)))),.c (.d (.v (.int .i64 (0))))],[]):=by
 exact fn W7 Tryz.func75
theorem c6l(a:Int):c6 Tryz.prog T1 L1 75 [.agg [.d (.v (.int .i64 (22))),.d (.v (.int .i64 (a)))]] []=some (.tup [.c (.d (.v (.int .i64 (0)))),.c (.d (.v (.int .i64 (0))))],[]):=by
 exact fn W7 Tryz.func75
theorem c6m(a:Int):c6 Tryz.prog T1 L1 75 [.agg [.d (.v (.int .i64 (23))),.d (.v (.int .i64 (a)))]] []=some (.tup [.c (.d (.v (.int .i64 (0)))),.c (.d (.v (.int .i64 (0))))],[]):=by
 exact fn W7 Tryz.func75
theorem c6n(a:Int):c6 Tryz.prog T1 L1 75 [.agg [.d (.v (.int .i64 (24))),.d (.v (.int .i64 (a)))]] []=some (.tup [.c (.d (.v (.int .i64 (0)))),.c (.d (.v (.int .i64 (0))))],[]):=by
 exact fn W7 Tryz.func75
theorem c6o(op a:Int)(h:1<=op∧op<=24):c6 Tryz.prog T1 L1 75 [.agg [.d (.v (.int .i64 (op))),.d (.v (.int .i64 (a)))]] []=some (.tup [.c (.d (.v (.int .i64 (tk op a)))),.c (.d (.v (.int .i64 (pt op))))],[]):=by
 rcases c3q h with h|h|h|h|h|h|h|h|h|h|h|h|h|h|h|h|h|h|h|h|h|h|h|h<;>subst h
 ·exact d1f a
 ·exact d1g a
 ·exact d1h a
 ·exact d1i a
 ·exact d1j a
 ·exact d1k a
 ·exact d1l a
 ·exact d1m a
 ·exact d1n a
 ·exact c5z a
 ·exact c6a a
 ·exact c6b a
 ·exact c6c a
 ·exact c6d a
 ·exact c6e a
 ·exact c6f a
 ·exact c6g a
 ·exact c6h a
 ·exact c6i a
 ·exact c6j a
 ·exact c6k a
 ·exact c6l a
 ·exact c6m a
 ·exact c6n a
end
end Go.Vsi
namespace Go.Vsi
open Go.Proofs
noncomputable section
set_option maxRecDepth 100000
set_option maxHeartbeats 4000000
set_option linter.unusedSimpArgs false
set_option linter.unusedVariables false
attribute [local go_sem ↓] v6
def nam(op:Int):Bool:=f8 op 2||f8 op 3||f8 op 17||f8 op 18||f8 op 19||f8 op 20||f8 op 24
def d1o(rd:List UInt8->Bool)(Ts:List (List UInt8))(op a i e:Int):Bool:=
 if f8 op 1=true then decide (a<(Ts.length:Int))
 else if f8 op 15=true then(if a<(Ts.length:Int)then rd (Ts.getD a.toNat [])else false)
 else if nam op=true then(if a<(Ts.length:Int)then nmB (Ts.getD a.toNat [])else false)
 else if f8 op 16=true then decide (1<=a∧a<=4)
 else if(f8 op 21||f8 op 22)=true then decide (i<a)&&decide (a<=e)
 else f8 a 0
theorem d5d(rd:List UInt8->Bool)(hR:C5 82 rd)(c:n8)(p q:Bool)(op a:Int)(i e:Int)(hT: ∀t∈c.Texts,t.length<=1000000000)(hl:c.Texts.length<=1000000)(ha:0<=a∧a<=255):c6 Tryz.prog T1 L1 74 [.agg [.d (c8 p 1 (rS c.Texts)),.d (c8 q 2 (g9 c.List)),.d (.v (.int .i64 (c.Begin))),.d (.v (.int .i64 (c.Line))),.d (.v (.int .i64 (c.End)))],.agg [.d (.v (.int .i64 (op))),.d (.v (.int .i64 (a)))],.c (.d (.v (.int .i64 (i)))),.c (.d (.v (.int .i64 (e))))] []=some (.one (.c (.d (.v (.bool (d1o rd c.Texts op a i e))))),[]):=by
 have h4:=b3j a 1 4
 unfold d1o nam
 generalize decide (1<=a∧a<=4)=q5 at h4⊢
 generalize c8 q 2 (g9 c.List)=dq
 by_cases hx:a<(c.Texts.length:Int)
 ·have h6:=c7w c.Texts a (by omega)
  have hm:(c.Texts.getD a.toNat []).length<=maxLen:=by
   have:=hT _ (List.mem_of_getElem? (b5p c.Texts a (by omega)))
   have:maxLen=9223372036854775807:=rfl
   omega
  obtain⟨d,h7⟩:=hR _ hm
  have h8:=a0n _ hm
  have hd:=o7 p 1 (rS c.Texts) (fun h=>by rw[h]at h6;simp at h6)
  generalize c.Texts.getD a.toNat []=t at h6 h7 h8⊢
  generalize rd t=q3 at h7⊢
  generalize nmB t=q4 at h8⊢
  rw[hd]
  clear hR hT hd
  simp only[if_pos hx,decide_eq_true hx]
  by_cases g1:i<a<;>by_cases g2:a<=e
  all_goals
   simp only[g1,g2,decide_true,decide_false,Bool.and_true,Bool.true_and,Bool.and_false]
   exact fn V74 Tryz.func74
 ·simp only[if_neg hx,decide_eq_false hx]
  clear hR hT
  by_cases g1:i<a<;>by_cases g2:a<=e
  all_goals
   simp only[g1,g2,decide_true,decide_false,Bool.and_true,Bool.true_and,Bool.and_false]
   exact fn V74 Tryz.func74
theorem e9v(rd:List UInt8->Bool)(Ts:List (List UInt8))(op a i e:Int)(h:1<=op∧op<=24)(ha:0<=a):d1o rd Ts op a i e=a9b rd Ts op a i e:=by
 have e1:decide (0<=a∧a<=(Ts.length:Int)-1)=decide (a<(Ts.length:Int)):=by
  rw[Bool.eq_iff_iff];simp;omega
 have e2:(decide (i<a)&&decide (a<=e))=decide (i+1<=a∧a<=e):=by
  rw[Bool.eq_iff_iff];simp;omega
 have e3: ∀b:Bool,(if a<(Ts.length:Int)then b else false)=(decide (a<(Ts.length:Int))&&b):=fun b=>by
  by_cases h:a<(Ts.length:Int)<;>simp[h]
 unfold d1o a9b
 rw[e1,e2,e3,e3]
 generalize decide (a<(Ts.length:Int))=q
 generalize decide (i+1<=a∧a<=e)=q2
 generalize decide (1<=a∧a<=4)=q3
 generalize rd (Ts.getD a.toNat [])=q4
 generalize nmB (Ts.getD a.toNat [])=q5
 clear e1 e2 e3
 rcases c3q h with h|h|h|h|h|h|h|h|h|h|h|h|h|h|h|h|h|h|h|h|h|h|h|h<;>subst h<;>simp[nam,a4c,a2a,f8]
end
end Go.Vsi
