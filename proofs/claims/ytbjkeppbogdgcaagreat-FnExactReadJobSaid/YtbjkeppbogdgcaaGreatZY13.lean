/- What the functions of the program, of the reference and of the law do (a part of it). -/
import Derived.Test.YtbjkeppbogdgcaaGreatZY11
namespace Go.Vsi
open Go.Proofs
noncomputable section
set_option maxRecDepth 100000
set_option maxHeartbeats 4000000
set_option linter.unusedSimpArgs false
set_option linter.unusedVariables false
attribute [local go_sem ↓] v6
theorem d9o(n:Int)(h:0<=n∧n<=1000):c6 Tryz.prog T1 L1 84 [.c (.d (.v (.int .u64 1))),.c (.d (.v (.int .u64 n)))] []=some (.tup [.c (.d (.v (.int .u64 0))),.c (.d (.v (.int .u64 n)))],[]):=by
 have h1:(1:Int)*n=n:=by omega
 have h2:(0:Int)*n=0:=by omega
 have h3:(1:Int)*0=0:=rfl
 have h4:(0:Int)*0=0:=rfl
 have h5:(0:Int)+0=0:=rfl
 have h6:n*1=n:=by omega
 have h7:n*0=0:=by omega
 exact fn V84 Tryz.func84
theorem e9w(n:Int)(h:0<=n∧n<=1000):c6 Tryz.prog T1 L1 76 [.c (.d (.v (.int .u64 1))),.c (.d (.v (.int .u64 n)))] []=some (.tup [.c (.d (.v (.int .u64 0))),.c (.d (.v (.int .u64 n)))],[]):=by
 have h1:=d9o n h
 exact fn V76 Tryz.func76
theorem a4d(H:List Int)(j:Nat)(h:j<H.length):(rI H)[j]?=some [.v (.int .i64 (H.getD j 0))]:=by
 unfold rI
 rw[List.getElem?_map,List.getElem?_eq_getElem h,List.getD_eq_getElem?_getD,List.getElem?_eq_getElem h];rfl
theorem c3r(H:List Int)(j:Nat)(v:Int):(rI H).set j [.v (.int .i64 (v))]=rI (H.set j v):=by
 unfold rI
 rw[List.map_set]
theorem e4t(xs:List Int):(rI xs).length=xs.length:=by simp[rI]
theorem e4u(xs:List Int):(rI xs).all (fun r=>r.length==1)=true:=by simp[rI]
theorem e9x(xs:List Int):(rI xs).take xs.length=rI xs:=List.take_of_length_le (by simp[rI])
attribute [go_sem] e4t e4u e9x
def cmB(H:List Int)(j:Nat)(h:Int):Bool:=decide (H.getD j 0<0)||f8 (H.getD j 0) h
theorem e4v(H:List Int)(f to h:Int)(hf:0<=f∧f<=1000)(ht:f<=to∧to-f<(H.length:Int))(hH:H.length<=1000):c6 Tryz.prog T1 L1 69 [.c (.d (.v (.int .i64 (to)))),.c (.d (.v (.int .i64 (h)))),.c (.ptr 0 0 0),.c (.ptr 2 0 0)] [some (.var [.arr 1 0 H.length]),some (.arr 1 (rI H)),some (.var [.d (.v (.int .i64 (f)))])]=some (.one (.c (.d (.v (.bool (cmB H (to-f).toNat h&&decide (h<=20)))))),[some (.var [.arr 1 0 H.length]),some (.arr 1 (rI (H.set (to-f).toNat h))),some (.var [.d (.v (.int .i64 (f)))])]):=by
 have h1:=a4d H (to-f).toNat (by omega)
 have h2:=c3r H (to-f).toNat h
 have h3:0<=to-f:=by omega
 unfold cmB
 generalize H.getD (to-f).toNat 0=v at h1⊢
 generalize rI (H.set (to-f).toNat h)=R2 at h2⊢
 generalize rI H=R at h1 h2⊢
 by_cases g1:v<0<;>by_cases g2:h<=20
 all_goals
  simp only[g1,g2,decide_true,decide_false,Bool.true_or,Bool.false_or,Bool.and_true,Bool.and_false]
  exact fn V69 Tryz.func69
end
end Go.Vsi
namespace Go.Vsi
open Go.Proofs
noncomputable section
set_option maxRecDepth 100000
set_option maxHeartbeats 4000000
set_option linter.unusedSimpArgs false
set_option linter.unusedVariables false
attribute [local go_sem ↓] v6
theorem e9y:(0:Int).toNat=0:=rfl
theorem e1i:((1:Nat):Int)=1:=rfl
attribute [go_sem] e9y Nat.sub_zero e1i
def R4(k n:Nat):List (List D):=List.replicate k [.v (.int .i64 (-1))]++List.replicate (n-k) [.v (.int .i64 (0))]
theorem e4w(k n:Nat)(h:k<=n):(R4 k n).length=n:=by unfold R4;simp;omega
theorem d9p(k n:Nat)(h1:k<=n):(R4 k n).take k++((R4 k n).take k).take (n-k)++(R4 k n).drop (k+(((R4 k n).take k).take (n-k)).length)=R4 (min (2*k) n) n:=by
 have e1:(R4 k n).take k=List.replicate k [.v (.int .i64 (-1))]:=by unfold R4;rw[List.take_left' (by simp)]
 rw[e1,List.take_replicate,List.length_replicate]
 unfold R4
 rw[List.drop_append,List.drop_replicate,List.drop_replicate,List.length_replicate,List.replicate_append_replicate]
 have e2:k-(k+min (n-k) k)=0:=by omega
 have e3:k+min (n-k) k=min (2*k) n:=by omega
 have e4:n-k-(k+min (n-k) k-k)=n-min (2*k) n:=by omega
 rw[e2,e4,e3]
 simp
theorem b4p(n:Nat)(hn:n<=1000): ∀(m k:Nat),1<=k->k<=n->n-k<=m->
  g8 Tryz.prog T1 (c6 Tryz.prog T1 L1) 68 (cq Tryz.f68 [0,0,0,1,1,1,1,1,1]) ⟨[J,J,J,J,J,J,J,.one (.c (.arr 1 0 n)),.one (.c (.d (.v (.int .i64 ((k:Int)))))),J,J,J,J,J,J,J,J,J,J,J,J,J,J,J,J,J,J,J,J,J,J,J,J,J,J,J,J,J,J,J,J,J,J,J,J,J,J,J],c7 [some (.arr 1 [[.v (.int .i64 (-1))]]),some (.arr 1 (R4 k n))],2,1⟩=some (.exit 0,⟨[J,J,J,J,J,J,J,.one (.c (.arr 1 0 n)),J,J,J,J,J,J,J,J,J,J,J,J,J,J,J,J,J,J,J,J,J,J,J,J,J,J,J,J,J,J,J,J,J,J,J,J,J,J,J,J],c7 [some (.arr 1 [[.v (.int .i64 (-1))]]),some (.arr 1 (R4 n n))],2,1⟩)
 |0,k,h1,h2,h3=>by
  have e:k=n:=by omega
  subst e
  exact lp V68
 |m+1,k,h1,h2,h3=>by
  by_cases hk:k=n
  ·subst hk
   exact lp V68
  ·have ih:=b4p n hn m (min (2*k) n) (by omega) (by omega) (by omega)
   have hl:=e4w k n h2
   have hc:=d9p k n h2
   have h5:(((R4 k n).take k).take (n-k)).length=min (2*k) n-k:=by rw[List.length_take,List.length_take,hl];omega
   have h6:(k:Int)+((min (2*k) n-k:Nat):Int)=((min (2*k) n:Nat):Int):=by omega
   have hkn:k<n:=by omega
   rw[h5]at hc
   rw[<-ih,<-hc]
   clear ih hc hk h3
   have hq:min (2*k) n-k<=1000:=by omega
   generalize min (2*k) n-k=q at*
   generalize min (2*k) n=q2 at*
   generalize R4 k n=R at*
   exact lp V68
theorem d5e(n:Nat)(hn:n<=1000)(h1:1<=n):c6 Tryz.prog T1 L1 68 [.c (.arr 0 0 1),.c (.d (.v (.int .i64 ((n:Int)))))] [some (.arr 1 [[.v (.int .i64 (-1))]])]=some (.one (.c (.arr 1 0 n)),[some (.arr 1 [[.v (.int .i64 (-1))]]),some (.arr 1 (List.replicate n [.v (.int .i64 (-1))]))]):=by
 have Lp:=b4p n hn n 1 (by omega) h1 (by omega)
 have hM:=e9w (n:Int) (by omega)
 have hroom:room=70368744177664:=rfl
 have e1:R4 n n=List.replicate n [.v (.int .i64 (-1))]:=by simp[R4]
 have e2:R4 1 n=[.v (.int .i64 (-1))]::List.drop 1 (List.replicate n [.v (.int .i64 (0))]):=by
  unfold R4
  rw[List.drop_replicate];rfl
 rw[e1,e2,e1i]at Lp
 clear e1 e2
 have ht:List.take n ([[.v (.int .i64 (-1))]]:List (List D))=[[.v (.int .i64 (-1))]]:=List.take_of_length_le (by simp;omega)
 generalize List.replicate n ([.v (.int .i64 (-1))]:List D)=R at Lp⊢
 exact fn V68 Tryz.func68
end
end Go.Vsi
namespace Go.Vsi
open Go.Proofs
noncomputable section
set_option maxRecDepth 100000
set_option maxHeartbeats 4000000
set_option linter.unusedSimpArgs false
set_option linter.unusedVariables false
attribute [local go_sem ↓] v6
def b5q(a f:Int)(H:List Int)(n:Int):Option (List Int):=if(cmB H (a-f).toNat n&&decide (n<=20))=true then some (H.set (a-f).toNat n)else none
def d1p(op a i f:Int)(H:List Int)(n:Int):Option (List Int):=
 if f8 op 23=true then some H
 else if f8 op 22=true then b5q a f H n
 else if(cmB H (i+1-f).toNat n&&decide (n<=20))=true then(if f8 op 21=true then b5q a f (H.set (i+1-f).toNat n) n else some (H.set (i+1-f).toNat n))
 else none
def S4(ar:i6->Int->Bool)(L:List i6)(f i:Int)(H:List Int):Option (List Int):=
 if ar (L.getD i.toNat ⟨0,0⟩) i=false then none
 else if H.getD (i-f).toNat 0<0 then some H
 else if H.getD (i-f).toNat 0<tk (L.getD i.toNat ⟨0,0⟩).Op (L.getD i.toNat ⟨0,0⟩).Arg then none
 else d1p (L.getD i.toNat ⟨0,0⟩).Op (L.getD i.toNat ⟨0,0⟩).Arg i f H (H.getD (i-f).toNat 0-tk (L.getD i.toNat ⟨0,0⟩).Op (L.getD i.toNat ⟨0,0⟩).Arg+pt (L.getD i.toNat ⟨0,0⟩).Op)
def Y8(ar:i6->Int->Bool)(L:List i6)(f:Int):Nat->Int->List Int->Option (List Int)
 |0,_,H=>some H
 |m+1,i,H=>match S4 ar L f i H with
  |none=>none
  |some H'=>Y8 ar L f m (i+1) H'
def I1(ar:i6->Int->Bool)(L:List i6)(f e:Int):Bool:=match Y8 ar L f (e-f).toNat f (0::List.replicate (e-f).toNat (-1))with
 |none=>false
 |some H=>decide (H.getD (e-f).toNat 0<=0)
def okH(H:List Int):Prop:= ∀v∈H,-1<=v∧v<=20
theorem a9x{H:List Int}(h:okH H)(j:Nat): -1<=H.getD j 0∧H.getD j 0<=20:=by
 rw[List.getD_eq_getElem?_getD]
 cases hj:H[j]? with
 |none=>simp
 |some v=>exact h v (List.mem_of_getElem? hj)
theorem a6g{H:List Int}(h:okH H)(j:Nat)(v:Int)(hv:0<=v∧v<=20):okH (H.set j v):=fun w hw=>by
 rcases List.mem_or_eq_of_mem_set hw with h1|h1
 ·exact h w h1
 ·subst h1;omega
theorem e1j(op a:Int)(ha:0<=a∧a<=255):0<=tk op a∧tk op a<=255:=by
 unfold tk
 split
 ·omega
 ·split
  ·omega
  ·split<;>omega
theorem d1q(op:Int):0<=pt op∧pt op<=1:=by
 unfold pt
 split<;>omega
theorem b5r(L:List i6)(j:Nat)(h:j<L.length):(g9 L)[j]?=some [.v (.int .i64 ((L.getD j ⟨0,0⟩).Op)),.v (.int .i64 ((L.getD j ⟨0,0⟩).Arg))]:=by
 unfold g9
 rw[List.getElem?_map,List.getElem?_eq_getElem h,List.getD_eq_getElem?_getD,List.getElem?_eq_getElem h];rfl
structure d1r(c:n8)(f e:Int)(N:Nat):Prop where
 b0:0<=f
 b1:f<=e
 b2:e<=(c.List.length:Int)
 b3:c.List.length<=300
 n1:(N:Int)<=e-f+1
 n2:e-f+1<=(N:Int)
 tx: ∀t∈c.Texts,t.length<=1000000000
 tl:c.Texts.length<=1000000
 li: ∀x∈c.List,0<=x.Arg∧x.Arg<=255
def arI(rd:List UInt8->Bool)(Ts:List (List UInt8))(e:Int)(x:i6)(i:Int):Bool:=a9b rd Ts x.Op x.Arg i e
theorem b2p(rd:List UInt8->Bool)(Ts:List (List UInt8))(op a i e:Int)(h:a9b rd Ts op a i e=true)(hj:f8 op 21=true∨f8 op 22=true):i+1<=a∧a<=e:=by
 have h1:a4c op=false:=by
  rcases hj with hj|hj<;>(rw[X5]at hj;subst hj;rfl)
 have h2:f8 op 16=false:=by
  rcases hj with hj|hj<;>(rw[X5]at hj;subst hj;rfl)
 have h3:(f8 op 21||f8 op 22)=true:=by
  rcases hj with hj|hj<;>simp[hj]
 unfold a9b at h
 rw[h1,h2,h3]at h
 simpa using h
abbrev stA(c:n8)(p q:Bool)(f e i:Int)(N:Nat)(H:List Int):St:=⟨[J,J,.one (.c (.d (.v (.int .i64 (e))))),.one (.c (.ptr 0 0 0)),.one (.c (.ptr 1 0 0)),J,J,.one (.c (.ptr 2 0 0)),.one (.c (.fn 69 [2,1])),.one (.c (.d (.v (.int .i64 (i))))),J,J,J,J,J,J,J,J,J,J,J,J,J,J,J,J,J,J,J,J,J,J,J,J,J,J,J,J,J,J,J,J,J,J,J,J,J,J,J,J,J,J,J,J,J,J,J,J,J,J,J,J,J,J,J,J,J,J,J,J,J,J,J,J,J,J,J,J,J,J,J,J,J,J,J,J,J,J,J,J,J,J,J,J,J,J,J,J],c7 [some (.var [.d (c8 p 1 (rS c.Texts)),.d (c8 q 2 (g9 c.List)),.d (.v (.int .i64 (c.Begin))),.d (.v (.int .i64 (c.Line))),.d (.v (.int .i64 (c.End)))]),some (.var [.d (.v (.int .i64 (f)))]),some (.var [.arr 3 0 N]),some (.arr 1 (rI H))],4,0⟩
abbrev stE(f e:Int)(N:Nat)(H:List Int):St:=⟨[J,J,.one (.c (.d (.v (.int .i64 (e))))),J,.one (.c (.ptr 0 0 0)),J,J,.one (.c (.ptr 1 0 0)),J,J,J,J,J,J,J,J,J,J,J,J,J,J,J,J,J,J,J,J,J,J,J,J,J,J,J,J,J,J,J,J,J,J,J,J,J,J,J,J,J,J,J,J,J,J,J,J,J,J,J,J,J,J,J,J,J,J,J,J,J,J,J,J,J,J,J,J,J,J,J,J,J,J,J,J,J,J,J,J,J,J,J,J,J,J,J,J,J,J],c7 [some (.var [.d (.v (.int .i64 (f)))]),some (.var [.arr 2 0 N]),some (.arr 1 (rI H))],3,0⟩
abbrev stR(f e:Int)(N:Nat)(H:List Int):St:=⟨[J,J,.one (.c (.d (.v (.int .i64 (e))))),J,.one (.c (.ptr 0 0 0)),J,.one (.c (.d (.v (.bool (false))))),.one (.c (.ptr 1 0 0)),J,J,J,J,J,J,J,J,J,J,J,J,J,J,J,J,J,J,J,J,J,J,J,J,J,J,J,J,J,J,J,J,J,J,J,J,J,J,J,J,J,J,J,J,J,J,J,J,J,J,J,J,J,J,J,J,J,J,J,J,J,J,J,J,J,J,J,J,J,J,J,J,J,J,J,J,J,J,J,J,J,J,J,J,J,J,J,J,J,J],c7 [some (.var [.d (.v (.int .i64 (f)))]),some (.var [.arr 2 0 N]),some (.arr 1 (rI H))],3,0⟩
end
end Go.Vsi
