/- What the functions of the program, of the reference and of the law do (a part of it). -/
import Derived.Test.YtbjkeppbogdgcaaGreatZY13
namespace Go.Vsi
open Go.Proofs
noncomputable section
set_option maxRecDepth 100000
set_option maxHeartbeats 4000000
set_option linter.unusedSimpArgs false
set_option linter.unusedVariables false
attribute [local go_sem ↓] v6
def goP(n:Int):List Int->List Int->Option (List Int)
 |[],G=>some G
 |j::js,G=>if cmB G j.toNat n=true then goP n js (G.set j.toNat n)else none
abbrev lpI(d d0:D)(cb cl ce e i n k:Int)(N m:Nat)(R ns:List (List D)):Option (Ex×St):=g8 Tryz.prog T1 (c6 Tryz.prog T1 L1) 65 (cq Tryz.f65 [0,0,1,1,1,1,1,1,1,1,1,1,0,0,1,0,0,1,0,1,1,1,1]) ⟨[J,J,.one (.c (.d (.v (.int .i64 (e))))),.one (.c (.ptr 0 0 0)),J,J,J,.one (.c (.arr 1 0 N)),J,.one (.c (.d (.v (.int .i64 (i))))),J,J,J,.one (.c (.d (.v (.int .i64 (n))))),.one (.c (.arr 2 0 m)),.one (.c (.d (.v (.int .i64 (k))))),J,J,J,J,J,J,J,J,J,J,J,J,J,J,J,J,J,J,J,J,J,J,J,J,J,J,J,J,J,J,J,J,J,J,J,J,J,J,J,J,J,J,J,J,J,J,J,J,J,J,J,J,J,J,J,J,J,J,J,J,J,J,J,J,J,J,J,J,J,J,J,J,J,J,J,J,J,J,J,J,J,J,J,J,J,J,J,J,J,J,J,J,J,J,J,J,J,J,J,J,J,J,J,J,J,J,J,J,J,J,J,J,J,J,J,J,J,J,J,J,J,J,J,J,J,J,J,J,J,J,J,J,J,J,J,J],c7 [some (.var [.d d,.d d0,.d (.v (.int .i64 (cb))),.d (.v (.int .i64 (cl))),.d (.v (.int .i64 (ce)))]),some (.arr 1 R),some (.arr 1 ns)],3,0⟩
abbrev exI(d d0:D)(cb cl ce e i:Int)(N:Nat)(R:List (List D)):Option (Ex×St):=some (.exit 4,⟨[J,J,.one (.c (.d (.v (.int .i64 (e))))),.one (.c (.ptr 0 0 0)),J,J,J,.one (.c (.arr 1 0 N)),J,.one (.c (.d (.v (.int .i64 (i))))),J,J,J,J,J,J,J,J,J,J,J,J,J,J,J,J,J,J,J,J,J,J,J,J,J,J,J,J,J,J,J,J,J,J,J,J,J,J,J,J,J,J,J,J,J,J,J,J,J,J,J,J,J,J,J,J,J,J,J,J,J,J,J,J,J,J,J,J,J,J,J,J,J,J,J,J,J,J,J,J,J,J,J,J,J,J,J,J,J,J,J,J,J,J,J,J,J,J,J,J,J,J,J,J,J,J,J,J,J,J,J,J,J,J,J,J,J,J,J,J,J,J,J,J,J,J,J,J,J,J,J,J,J,J,J,J,J,J,J,J,J,J],c7 [some (.var [.d d,.d d0,.d (.v (.int .i64 (cb))),.d (.v (.int .i64 (cl))),.d (.v (.int .i64 (ce)))]),some (.arr 1 R)],2,0⟩)
abbrev reI(d d0:D)(cb cl ce e i:Int)(N:Nat)(R:List (List D)):Option (Ex×St):=some (.ret,⟨[J,J,.one (.c (.d (.v (.int .i64 (e))))),.one (.c (.ptr 0 0 0)),J,J,.one (.c (.d (.v (.bool (false))))),.one (.c (.arr 1 0 N)),J,.one (.c (.d (.v (.int .i64 (i))))),J,J,J,J,J,J,J,J,J,J,J,J,J,J,J,J,J,J,J,J,J,J,J,J,J,J,J,J,J,J,J,J,J,J,J,J,J,J,J,J,J,J,J,J,J,J,J,J,J,J,J,J,J,J,J,J,J,J,J,J,J,J,J,J,J,J,J,J,J,J,J,J,J,J,J,J,J,J,J,J,J,J,J,J,J,J,J,J,J,J,J,J,J,J,J,J,J,J,J,J,J,J,J,J,J,J,J,J,J,J,J,J,J,J,J,J,J,J,J,J,J,J,J,J,J,J,J,J,J,J,J,J,J,J,J,J,J,J,J,J,J,J],c7 [some (.var [.d d,.d d0,.d (.v (.int .i64 (cb))),.d (.v (.int .i64 (cl))),.d (.v (.int .i64 (ce)))]),some (.arr 1 R)],2,0⟩)
theorem f0c(d d0:D)(cb cl ce e i n:Int)(N m:Nat)(R ns:List (List D)):lpI d d0 cb cl ce e i n (m:Int) N m R ns=exI d d0 cb cl ce e i N R:=by
 exact lp Y2
theorem f0d(d d0:D)(cb cl ce e i n k j v:Int)(N m:Nat)(R R' ns:List (List D))(h0:0<=k∧k<(m:Int)∧m<=10)(hj:ns[k.toNat]?=some [.v (.int .i64 (j))])(b:0<=j∧j<(N:Int))(hg:R[j.toNat]?=some [.v (.int .i64 (v))])(hc:v<0)(hs:R.set j.toNat [.v (.int .i64 (n))]=R'):lpI d d0 cb cl ce e i n k N m R ns=lpI d d0 cb cl ce e i n (k+1) N m R' ns:=by
 exact lp Y2
theorem e4x(d d0:D)(cb cl ce e i n k j v:Int)(N m:Nat)(R R' ns:List (List D))(h0:0<=k∧k<(m:Int)∧m<=10)(hj:ns[k.toNat]?=some [.v (.int .i64 (j))])(b:0<=j∧j<(N:Int))(hg:R[j.toNat]?=some [.v (.int .i64 (v))])(hv:0<=v)(hc:f8 v n=true)(hs:R.set j.toNat [.v (.int .i64 (n))]=R'):lpI d d0 cb cl ce e i n k N m R ns=lpI d d0 cb cl ce e i n (k+1) N m R' ns:=by
 exact lp Y2
theorem f5z(d d0:D)(cb cl ce e i n k j v:Int)(N m:Nat)(R ns:List (List D))(h0:0<=k∧k<(m:Int)∧m<=10)(hj:ns[k.toNat]?=some [.v (.int .i64 (j))])(b:0<=j∧j<(N:Int))(hg:R[j.toNat]?=some [.v (.int .i64 (v))])(hv:0<=v)(hc:f8 v n=false):lpI d d0 cb cl ce e i n k N m R ns=reI d d0 cb cl ce e i N R:=by
 exact lp Y2
theorem c7x(d d0:D)(cb cl ce e i n:Int)(ns:List Int)(hn:ns.length<=10): ∀(js:List Int)(k:Nat)(G:List Int),ns.drop k=js->(∀j∈js,0<=j∧j<(G.length:Int))->k<=ns.length->
  match goP n js G with
  |some G'=>G'.length=G.length∧lpI d d0 cb cl ce e i n (k:Int) G.length ns.length (rI G) (rI ns)=exI d d0 cb cl ce e i G.length (rI G')
  |none=> ∃G',lpI d d0 cb cl ce e i n (k:Int) G.length ns.length (rI G) (rI ns)=reI d d0 cb cl ce e i G.length (rI G')
 |[],k,G,hd,hj,hk=>by
  have:k=ns.length:=by
   have:=congrArg List.length hd
   rw[List.length_drop,List.length_nil]at this
   omega
  subst this
  exact⟨rfl,f0c d d0 cb cl ce e i n G.length ns.length (rI G) (rI ns)⟩
 |j::js,k,G,hd,hj,hk=>by
  have hlt:k<ns.length:=by
   have:=congrArg List.length hd
   rw[List.length_drop,List.length_cons]at this
   omega
  have hd2:ns.drop (k+1)=js:=by rw[<-List.drop_drop,hd];rfl
  have hjk:(rI ns)[((k:Int)).toNat]?=some [.v (.int .i64 (j))]:=by
   have h2:ns[k]?=some j:=by rw[<-List.head?_drop,hd];rfl
   unfold rI
   rw[Int.toNat_natCast,List.getElem?_map,h2];rfl
  have hb:=hj j (List.mem_cons_self ..)
  have hg:=a4d G j.toNat (by omega)
  have hs:=c3r G j.toNat n
  have h0:0<=(k:Int)∧(k:Int)<(ns.length:Int)∧ns.length<=10:=by omega
  have e1:((k+1:Nat):Int)=(k:Int)+1:=by omega
  have ih:=c7x d d0 cb cl ce e i n ns hn js (k+1) (G.set j.toNat n) hd2 (fun x hx=>by
   have:=hj x (List.mem_cons_of_mem _ hx)
   simpa using this) (by omega)
  rw[e1,List.length_set]at ih
  rw[goP]
  unfold cmB
  by_cases hv:G.getD j.toNat 0<0
  ·rw[if_pos (by rw[decide_eq_true hv];rfl)]
   have hy:=f0d d d0 cb cl ce e i n k j _ G.length ns.length (rI G) _ (rI ns) h0 hjk hb hg hv hs
   rw[<-hy]at ih
   exact ih
  ·cases hq:f8 (G.getD j.toNat 0) n with
   |true=>
    rw[if_pos (by simp)]
    have hy:=e4x d d0 cb cl ce e i n k j _ G.length ns.length (rI G) _ (rI ns) h0 hjk hb hg (by omega) hq hs
    rw[<-hy]at ih
    exact ih
   |false=>
    rw[if_neg (by rw[decide_eq_false hv];simp)]
    exact⟨G,f5z d d0 cb cl ce e i n k j _ G.length ns.length (rI G) (rI ns) h0 hjk hb hg (by omega) hq⟩
abbrev lpG(d:D)(cb cl ce e i:Int)(N:Nat)(R0 R:List (List D)):Option (Ex×St):=g8 Tryz.prog T1 (c6 Tryz.prog T1 L1) 65 (cq Tryz.f65 [0,0,1,0,1,1,1,1]) ⟨[J,J,.one (.c (.d (.v (.int .i64 (e))))),.one (.c (.ptr 0 0 0)),J,J,J,.one (.c (.arr 1 0 N)),J,.one (.c (.d (.v (.int .i64 (i))))),J,J,J,J,J,J,J,J,J,J,J,J,J,J,J,J,J,J,J,J,J,J,J,J,J,J,J,J,J,J,J,J,J,J,J,J,J,J,J,J,J,J,J,J,J,J,J,J,J,J,J,J,J,J,J,J,J,J,J,J,J,J,J,J,J,J,J,J,J,J,J,J,J,J,J,J,J,J,J,J,J,J,J,J,J,J,J,J,J,J,J,J,J,J,J,J,J,J,J,J,J,J,J,J,J,J,J,J,J,J,J,J,J,J,J,J,J,J,J,J,J,J,J,J,J,J,J,J,J,J,J,J,J,J,J,J,J,J,J,J,J,J],c7 [some (.var [.d d,.d (.sl 2 R0),.d (.v (.int .i64 (cb))),.d (.v (.int .i64 (cl))),.d (.v (.int .i64 (ce)))]),some (.arr 1 R)],2,0⟩
abbrev reG(e:Int)(N:Nat)(R:List (List D)):Option (Ex×St):=some (.ret,⟨[J,J,.one (.c (.d (.v (.int .i64 (e))))),J,J,J,.one (.c (.d (.v (.bool (false))))),.one (.c (.arr 0 0 N)),J,J,J,J,J,J,J,J,J,J,J,J,J,J,J,J,J,J,J,J,J,J,J,J,J,J,J,J,J,J,J,J,J,J,J,J,J,J,J,J,J,J,J,J,J,J,J,J,J,J,J,J,J,J,J,J,J,J,J,J,J,J,J,J,J,J,J,J,J,J,J,J,J,J,J,J,J,J,J,J,J,J,J,J,J,J,J,J,J,J,J,J,J,J,J,J,J,J,J,J,J,J,J,J,J,J,J,J,J,J,J,J,J,J,J,J,J,J,J,J,J,J,J,J,J,J,J,J,J,J,J,J,J,J,J,J,J,J,J,J,J,J,J,J],c7 [some (.arr 1 R)],1,0⟩)
theorem f6a(d:D)(cb cl ce e i op a t u v:Int)(N:Nat)(R0 R R1:List (List D))(b1:0<=i∧i<e∧e<=1000)(b2:e<(N:Int)∧(N:Int)<=2000)(hg0:R0[i.toNat]?=some [.v (.int .i64 (op)),.v (.int .i64 (a))])(hg:R[i.toNat]?=some [.v (.int .i64 (v))])(q1:c6 Tryz.prog T1 L1 55 [.c (.d (.v (.int .i64 (op)))),.c (.d (.v (.int .i64 (1)))),.c (.d (.v (.int .i64 (24))))] []=some (.one (.c (.d (.v (.bool (false))))),[]))(q2:c6 Tryz.prog T1 L1 55 [.c (.d (.v (.int .i64 (a)))),.c (.d (.v (.int .i64 (0)))),.c (.d (.v (.int .i64 (255))))] []=some (.one (.c (.d (.v (.bool (true))))),[])):lpG d cb cl ce e i N R0 R=reG e N R:=by
 have hroom:room=70368744177664:=rfl
 exact lp Y2
theorem f0e(d:D)(cb cl ce e i op a t u v:Int)(N:Nat)(R0 R R1:List (List D))(b1:0<=i∧i<e∧e<=1000)(b2:e<(N:Int)∧(N:Int)<=2000)(hg0:R0[i.toNat]?=some [.v (.int .i64 (op)),.v (.int .i64 (a))])(hg:R[i.toNat]?=some [.v (.int .i64 (v))])(q1:c6 Tryz.prog T1 L1 55 [.c (.d (.v (.int .i64 (op)))),.c (.d (.v (.int .i64 (1)))),.c (.d (.v (.int .i64 (24))))] []=some (.one (.c (.d (.v (.bool (false))))),[]))(q2:c6 Tryz.prog T1 L1 55 [.c (.d (.v (.int .i64 (a)))),.c (.d (.v (.int .i64 (0)))),.c (.d (.v (.int .i64 (255))))] []=some (.one (.c (.d (.v (.bool (false))))),[])):lpG d cb cl ce e i N R0 R=reG e N R:=by
 have hroom:room=70368744177664:=rfl
 exact lp Y2
theorem f6b(d:D)(cb cl ce e i op a t u v:Int)(N:Nat)(R0 R R1:List (List D))(b1:0<=i∧i<e∧e<=1000)(b2:e<(N:Int)∧(N:Int)<=2000)(hg0:R0[i.toNat]?=some [.v (.int .i64 (op)),.v (.int .i64 (a))])(hg:R[i.toNat]?=some [.v (.int .i64 (v))])(q1:c6 Tryz.prog T1 L1 55 [.c (.d (.v (.int .i64 (op)))),.c (.d (.v (.int .i64 (1)))),.c (.d (.v (.int .i64 (24))))] []=some (.one (.c (.d (.v (.bool (true))))),[]))(q2:c6 Tryz.prog T1 L1 55 [.c (.d (.v (.int .i64 (a)))),.c (.d (.v (.int .i64 (0)))),.c (.d (.v (.int .i64 (255))))] []=some (.one (.c (.d (.v (.bool (false))))),[])):lpG d cb cl ce e i N R0 R=reG e N R:=by
 have hroom:room=70368744177664:=rfl
 exact lp Y2
theorem f0f(d:D)(cb cl ce e i op a t u v:Int)(N:Nat)(R0 R R1:List (List D))(b1:0<=i∧i<e∧e<=1000)(b2:e<(N:Int)∧(N:Int)<=2000)(hg0:R0[i.toNat]?=some [.v (.int .i64 (op)),.v (.int .i64 (a))])(hg:R[i.toNat]?=some [.v (.int .i64 (v))])(q1:c6 Tryz.prog T1 L1 55 [.c (.d (.v (.int .i64 (op)))),.c (.d (.v (.int .i64 (1)))),.c (.d (.v (.int .i64 (24))))] []=some (.one (.c (.d (.v (.bool (true))))),[]))(q2:c6 Tryz.prog T1 L1 55 [.c (.d (.v (.int .i64 (a)))),.c (.d (.v (.int .i64 (0)))),.c (.d (.v (.int .i64 (255))))] []=some (.one (.c (.d (.v (.bool (true))))),[]))(hA:c6 Tryz.prog T1 L1 74 [.agg [.d d,.d (.sl 2 R0),.d (.v (.int .i64 (cb))),.d (.v (.int .i64 (cl))),.d (.v (.int .i64 (ce)))],.agg [.d (.v (.int .i64 (op))),.d (.v (.int .i64 (a)))],.c (.d (.v (.int .i64 (i)))),.c (.d (.v (.int .i64 (e))))] []=some (.one (.c (.d (.v (.bool (false))))),[])):lpG d cb cl ce e i N R0 R=reG e N R:=by
 have hroom:room=70368744177664:=rfl
 exact lp Y2
theorem f0g(d:D)(cb cl ce e i op a t u v:Int)(N:Nat)(R0 R R1:List (List D))(b1:0<=i∧i<e∧e<=1000)(b2:e<(N:Int)∧(N:Int)<=2000)(hg0:R0[i.toNat]?=some [.v (.int .i64 (op)),.v (.int .i64 (a))])(hg:R[i.toNat]?=some [.v (.int .i64 (v))])(q1:c6 Tryz.prog T1 L1 55 [.c (.d (.v (.int .i64 (op)))),.c (.d (.v (.int .i64 (1)))),.c (.d (.v (.int .i64 (24))))] []=some (.one (.c (.d (.v (.bool (true))))),[]))(q2:c6 Tryz.prog T1 L1 55 [.c (.d (.v (.int .i64 (a)))),.c (.d (.v (.int .i64 (0)))),.c (.d (.v (.int .i64 (255))))] []=some (.one (.c (.d (.v (.bool (true))))),[]))(hA:c6 Tryz.prog T1 L1 74 [.agg [.d d,.d (.sl 2 R0),.d (.v (.int .i64 (cb))),.d (.v (.int .i64 (cl))),.d (.v (.int .i64 (ce)))],.agg [.d (.v (.int .i64 (op))),.d (.v (.int .i64 (a)))],.c (.d (.v (.int .i64 (i)))),.c (.d (.v (.int .i64 (e))))] []=some (.one (.c (.d (.v (.bool (true))))),[]))(hT:c6 Tryz.prog T1 L1 75 [.agg [.d (.v (.int .i64 (op))),.d (.v (.int .i64 (a)))]] []=some (.tup [.c (.d (.v (.int .i64 (t)))),.c (.d (.v (.int .i64 (u))))],[]))(bt:0<=t∧t<=255)(bu:0<=u∧u<=1)(bv: -1<=v∧v<=20)(hv:v<0):lpG d cb cl ce e i N R0 R=lpG d cb cl ce e (i+1) N R0 R:=by
 have hroom:room=70368744177664:=rfl
 exact lp Y2
theorem f0h(d:D)(cb cl ce e i op a t u v:Int)(N:Nat)(R0 R R1:List (List D))(b1:0<=i∧i<e∧e<=1000)(b2:e<(N:Int)∧(N:Int)<=2000)(hg0:R0[i.toNat]?=some [.v (.int .i64 (op)),.v (.int .i64 (a))])(hg:R[i.toNat]?=some [.v (.int .i64 (v))])(q1:c6 Tryz.prog T1 L1 55 [.c (.d (.v (.int .i64 (op)))),.c (.d (.v (.int .i64 (1)))),.c (.d (.v (.int .i64 (24))))] []=some (.one (.c (.d (.v (.bool (true))))),[]))(q2:c6 Tryz.prog T1 L1 55 [.c (.d (.v (.int .i64 (a)))),.c (.d (.v (.int .i64 (0)))),.c (.d (.v (.int .i64 (255))))] []=some (.one (.c (.d (.v (.bool (true))))),[]))(hA:c6 Tryz.prog T1 L1 74 [.agg [.d d,.d (.sl 2 R0),.d (.v (.int .i64 (cb))),.d (.v (.int .i64 (cl))),.d (.v (.int .i64 (ce)))],.agg [.d (.v (.int .i64 (op))),.d (.v (.int .i64 (a)))],.c (.d (.v (.int .i64 (i)))),.c (.d (.v (.int .i64 (e))))] []=some (.one (.c (.d (.v (.bool (true))))),[]))(hT:c6 Tryz.prog T1 L1 75 [.agg [.d (.v (.int .i64 (op))),.d (.v (.int .i64 (a)))]] []=some (.tup [.c (.d (.v (.int .i64 (t)))),.c (.d (.v (.int .i64 (u))))],[]))(bt:0<=t∧t<=255)(bu:0<=u∧u<=1)(bv: -1<=v∧v<=20)(hv:0<=v)(hl:v<t):lpG d cb cl ce e i N R0 R=reG e N R:=by
 have hroom:room=70368744177664:=rfl
 exact lp Y2
theorem f0i(d:D)(cb cl ce e i op a t u v:Int)(N:Nat)(R0 R R1:List (List D))(b1:0<=i∧i<e∧e<=1000)(b2:e<(N:Int)∧(N:Int)<=2000)(hg0:R0[i.toNat]?=some [.v (.int .i64 (op)),.v (.int .i64 (a))])(hg:R[i.toNat]?=some [.v (.int .i64 (v))])(q1:c6 Tryz.prog T1 L1 55 [.c (.d (.v (.int .i64 (op)))),.c (.d (.v (.int .i64 (1)))),.c (.d (.v (.int .i64 (24))))] []=some (.one (.c (.d (.v (.bool (true))))),[]))(q2:c6 Tryz.prog T1 L1 55 [.c (.d (.v (.int .i64 (a)))),.c (.d (.v (.int .i64 (0)))),.c (.d (.v (.int .i64 (255))))] []=some (.one (.c (.d (.v (.bool (true))))),[]))(hA:c6 Tryz.prog T1 L1 74 [.agg [.d d,.d (.sl 2 R0),.d (.v (.int .i64 (cb))),.d (.v (.int .i64 (cl))),.d (.v (.int .i64 (ce)))],.agg [.d (.v (.int .i64 (op))),.d (.v (.int .i64 (a)))],.c (.d (.v (.int .i64 (i)))),.c (.d (.v (.int .i64 (e))))] []=some (.one (.c (.d (.v (.bool (true))))),[]))(hT:c6 Tryz.prog T1 L1 75 [.agg [.d (.v (.int .i64 (op))),.d (.v (.int .i64 (a)))]] []=some (.tup [.c (.d (.v (.int .i64 (t)))),.c (.d (.v (.int .i64 (u))))],[]))(bt:0<=t∧t<=255)(bu:0<=u∧u<=1)(bv: -1<=v∧v<=20)(hv:0<=v)(hl:t<=v)(hb:20<v-t+u):lpG d cb cl ce e i N R0 R=reG e N R:=by
 have hroom:room=70368744177664:=rfl
 exact lp Y2
theorem f0j(d:D)(cb cl ce e i op a t u v:Int)(N:Nat)(R0 R R1:List (List D))(b1:0<=i∧i<e∧e<=1000)(b2:e<(N:Int)∧(N:Int)<=2000)(hg0:R0[i.toNat]?=some [.v (.int .i64 (op)),.v (.int .i64 (a))])(hg:R[i.toNat]?=some [.v (.int .i64 (v))])(q1:c6 Tryz.prog T1 L1 55 [.c (.d (.v (.int .i64 (op)))),.c (.d (.v (.int .i64 (1)))),.c (.d (.v (.int .i64 (24))))] []=some (.one (.c (.d (.v (.bool (true))))),[]))(q2:c6 Tryz.prog T1 L1 55 [.c (.d (.v (.int .i64 (a)))),.c (.d (.v (.int .i64 (0)))),.c (.d (.v (.int .i64 (255))))] []=some (.one (.c (.d (.v (.bool (true))))),[]))(hA:c6 Tryz.prog T1 L1 74 [.agg [.d d,.d (.sl 2 R0),.d (.v (.int .i64 (cb))),.d (.v (.int .i64 (cl))),.d (.v (.int .i64 (ce)))],.agg [.d (.v (.int .i64 (op))),.d (.v (.int .i64 (a)))],.c (.d (.v (.int .i64 (i)))),.c (.d (.v (.int .i64 (e))))] []=some (.one (.c (.d (.v (.bool (true))))),[]))(hT:c6 Tryz.prog T1 L1 75 [.agg [.d (.v (.int .i64 (op))),.d (.v (.int .i64 (a)))]] []=some (.tup [.c (.d (.v (.int .i64 (t)))),.c (.d (.v (.int .i64 (u))))],[]))(bt:0<=t∧t<=255)(bu:0<=u∧u<=1)(bv: -1<=v∧v<=20)(hv:0<=v)(hl:t<=v)(hb:v-t+u<=20)(e1:f8 op 23=true)(e2:f8 op 22=false)(e3:f8 op 21=false)(hi:lpI d (.sl 2 R0) cb cl ce e i (v-t+u) 0 N 0 R []=exI d (.sl 2 R0) cb cl ce e i N R1):lpG d cb cl ce e i N R0 R=lpG d cb cl ce e (i+1) N R0 R1:=by
 have hroom:room=70368744177664:=rfl
 exact lp Y2
theorem f6c(d:D)(cb cl ce e i op a t u v:Int)(N:Nat)(R0 R R1:List (List D))(b1:0<=i∧i<e∧e<=1000)(b2:e<(N:Int)∧(N:Int)<=2000)(hg0:R0[i.toNat]?=some [.v (.int .i64 (op)),.v (.int .i64 (a))])(hg:R[i.toNat]?=some [.v (.int .i64 (v))])(q1:c6 Tryz.prog T1 L1 55 [.c (.d (.v (.int .i64 (op)))),.c (.d (.v (.int .i64 (1)))),.c (.d (.v (.int .i64 (24))))] []=some (.one (.c (.d (.v (.bool (true))))),[]))(q2:c6 Tryz.prog T1 L1 55 [.c (.d (.v (.int .i64 (a)))),.c (.d (.v (.int .i64 (0)))),.c (.d (.v (.int .i64 (255))))] []=some (.one (.c (.d (.v (.bool (true))))),[]))(hA:c6 Tryz.prog T1 L1 74 [.agg [.d d,.d (.sl 2 R0),.d (.v (.int .i64 (cb))),.d (.v (.int .i64 (cl))),.d (.v (.int .i64 (ce)))],.agg [.d (.v (.int .i64 (op))),.d (.v (.int .i64 (a)))],.c (.d (.v (.int .i64 (i)))),.c (.d (.v (.int .i64 (e))))] []=some (.one (.c (.d (.v (.bool (true))))),[]))(hT:c6 Tryz.prog T1 L1 75 [.agg [.d (.v (.int .i64 (op))),.d (.v (.int .i64 (a)))]] []=some (.tup [.c (.d (.v (.int .i64 (t)))),.c (.d (.v (.int .i64 (u))))],[]))(bt:0<=t∧t<=255)(bu:0<=u∧u<=1)(bv: -1<=v∧v<=20)(hv:0<=v)(hl:t<=v)(hb:v-t+u<=20)(e1:f8 op 23=false)(e2:f8 op 22=true)(e3:f8 op 21=false)(hi:lpI d (.sl 2 R0) cb cl ce e i (v-t+u) 0 N 1 R [[.v (.int .i64 (a))]]=exI d (.sl 2 R0) cb cl ce e i N R1):lpG d cb cl ce e i N R0 R=lpG d cb cl ce e (i+1) N R0 R1:=by
 have hroom:room=70368744177664:=rfl
 exact lp Y2
theorem f6d(d:D)(cb cl ce e i op a t u v:Int)(N:Nat)(R0 R R1:List (List D))(b1:0<=i∧i<e∧e<=1000)(b2:e<(N:Int)∧(N:Int)<=2000)(hg0:R0[i.toNat]?=some [.v (.int .i64 (op)),.v (.int .i64 (a))])(hg:R[i.toNat]?=some [.v (.int .i64 (v))])(q1:c6 Tryz.prog T1 L1 55 [.c (.d (.v (.int .i64 (op)))),.c (.d (.v (.int .i64 (1)))),.c (.d (.v (.int .i64 (24))))] []=some (.one (.c (.d (.v (.bool (true))))),[]))(q2:c6 Tryz.prog T1 L1 55 [.c (.d (.v (.int .i64 (a)))),.c (.d (.v (.int .i64 (0)))),.c (.d (.v (.int .i64 (255))))] []=some (.one (.c (.d (.v (.bool (true))))),[]))(hA:c6 Tryz.prog T1 L1 74 [.agg [.d d,.d (.sl 2 R0),.d (.v (.int .i64 (cb))),.d (.v (.int .i64 (cl))),.d (.v (.int .i64 (ce)))],.agg [.d (.v (.int .i64 (op))),.d (.v (.int .i64 (a)))],.c (.d (.v (.int .i64 (i)))),.c (.d (.v (.int .i64 (e))))] []=some (.one (.c (.d (.v (.bool (true))))),[]))(hT:c6 Tryz.prog T1 L1 75 [.agg [.d (.v (.int .i64 (op))),.d (.v (.int .i64 (a)))]] []=some (.tup [.c (.d (.v (.int .i64 (t)))),.c (.d (.v (.int .i64 (u))))],[]))(bt:0<=t∧t<=255)(bu:0<=u∧u<=1)(bv: -1<=v∧v<=20)(hv:0<=v)(hl:t<=v)(hb:v-t+u<=20)(e1:f8 op 23=false)(e2:f8 op 22=true)(e3:f8 op 21=false)(hi:lpI d (.sl 2 R0) cb cl ce e i (v-t+u) 0 N 1 R [[.v (.int .i64 (a))]]=reI d (.sl 2 R0) cb cl ce e i N R1):lpG d cb cl ce e i N R0 R=reG e N R1:=by
 have hroom:room=70368744177664:=rfl
 exact lp Y2
theorem f6e(d:D)(cb cl ce e i op a t u v:Int)(N:Nat)(R0 R R1:List (List D))(b1:0<=i∧i<e∧e<=1000)(b2:e<(N:Int)∧(N:Int)<=2000)(hg0:R0[i.toNat]?=some [.v (.int .i64 (op)),.v (.int .i64 (a))])(hg:R[i.toNat]?=some [.v (.int .i64 (v))])(q1:c6 Tryz.prog T1 L1 55 [.c (.d (.v (.int .i64 (op)))),.c (.d (.v (.int .i64 (1)))),.c (.d (.v (.int .i64 (24))))] []=some (.one (.c (.d (.v (.bool (true))))),[]))(q2:c6 Tryz.prog T1 L1 55 [.c (.d (.v (.int .i64 (a)))),.c (.d (.v (.int .i64 (0)))),.c (.d (.v (.int .i64 (255))))] []=some (.one (.c (.d (.v (.bool (true))))),[]))(hA:c6 Tryz.prog T1 L1 74 [.agg [.d d,.d (.sl 2 R0),.d (.v (.int .i64 (cb))),.d (.v (.int .i64 (cl))),.d (.v (.int .i64 (ce)))],.agg [.d (.v (.int .i64 (op))),.d (.v (.int .i64 (a)))],.c (.d (.v (.int .i64 (i)))),.c (.d (.v (.int .i64 (e))))] []=some (.one (.c (.d (.v (.bool (true))))),[]))(hT:c6 Tryz.prog T1 L1 75 [.agg [.d (.v (.int .i64 (op))),.d (.v (.int .i64 (a)))]] []=some (.tup [.c (.d (.v (.int .i64 (t)))),.c (.d (.v (.int .i64 (u))))],[]))(bt:0<=t∧t<=255)(bu:0<=u∧u<=1)(bv: -1<=v∧v<=20)(hv:0<=v)(hl:t<=v)(hb:v-t+u<=20)(e1:f8 op 23=false)(e2:f8 op 22=false)(e3:f8 op 21=false)(hi:lpI d (.sl 2 R0) cb cl ce e i (v-t+u) 0 N 1 R [[.v (.int .i64 (i+1))]]=exI d (.sl 2 R0) cb cl ce e i N R1):lpG d cb cl ce e i N R0 R=lpG d cb cl ce e (i+1) N R0 R1:=by
 have hroom:room=70368744177664:=rfl
 exact lp Y2
theorem f6f(d:D)(cb cl ce e i op a t u v:Int)(N:Nat)(R0 R R1:List (List D))(b1:0<=i∧i<e∧e<=1000)(b2:e<(N:Int)∧(N:Int)<=2000)(hg0:R0[i.toNat]?=some [.v (.int .i64 (op)),.v (.int .i64 (a))])(hg:R[i.toNat]?=some [.v (.int .i64 (v))])(q1:c6 Tryz.prog T1 L1 55 [.c (.d (.v (.int .i64 (op)))),.c (.d (.v (.int .i64 (1)))),.c (.d (.v (.int .i64 (24))))] []=some (.one (.c (.d (.v (.bool (true))))),[]))(q2:c6 Tryz.prog T1 L1 55 [.c (.d (.v (.int .i64 (a)))),.c (.d (.v (.int .i64 (0)))),.c (.d (.v (.int .i64 (255))))] []=some (.one (.c (.d (.v (.bool (true))))),[]))(hA:c6 Tryz.prog T1 L1 74 [.agg [.d d,.d (.sl 2 R0),.d (.v (.int .i64 (cb))),.d (.v (.int .i64 (cl))),.d (.v (.int .i64 (ce)))],.agg [.d (.v (.int .i64 (op))),.d (.v (.int .i64 (a)))],.c (.d (.v (.int .i64 (i)))),.c (.d (.v (.int .i64 (e))))] []=some (.one (.c (.d (.v (.bool (true))))),[]))(hT:c6 Tryz.prog T1 L1 75 [.agg [.d (.v (.int .i64 (op))),.d (.v (.int .i64 (a)))]] []=some (.tup [.c (.d (.v (.int .i64 (t)))),.c (.d (.v (.int .i64 (u))))],[]))(bt:0<=t∧t<=255)(bu:0<=u∧u<=1)(bv: -1<=v∧v<=20)(hv:0<=v)(hl:t<=v)(hb:v-t+u<=20)(e1:f8 op 23=false)(e2:f8 op 22=false)(e3:f8 op 21=false)(hi:lpI d (.sl 2 R0) cb cl ce e i (v-t+u) 0 N 1 R [[.v (.int .i64 (i+1))]]=reI d (.sl 2 R0) cb cl ce e i N R1):lpG d cb cl ce e i N R0 R=reG e N R1:=by
 have hroom:room=70368744177664:=rfl
 exact lp Y2
theorem f6g(d:D)(cb cl ce e i op a t u v:Int)(N:Nat)(R0 R R1:List (List D))(b1:0<=i∧i<e∧e<=1000)(b2:e<(N:Int)∧(N:Int)<=2000)(hg0:R0[i.toNat]?=some [.v (.int .i64 (op)),.v (.int .i64 (a))])(hg:R[i.toNat]?=some [.v (.int .i64 (v))])(q1:c6 Tryz.prog T1 L1 55 [.c (.d (.v (.int .i64 (op)))),.c (.d (.v (.int .i64 (1)))),.c (.d (.v (.int .i64 (24))))] []=some (.one (.c (.d (.v (.bool (true))))),[]))(q2:c6 Tryz.prog T1 L1 55 [.c (.d (.v (.int .i64 (a)))),.c (.d (.v (.int .i64 (0)))),.c (.d (.v (.int .i64 (255))))] []=some (.one (.c (.d (.v (.bool (true))))),[]))(hA:c6 Tryz.prog T1 L1 74 [.agg [.d d,.d (.sl 2 R0),.d (.v (.int .i64 (cb))),.d (.v (.int .i64 (cl))),.d (.v (.int .i64 (ce)))],.agg [.d (.v (.int .i64 (op))),.d (.v (.int .i64 (a)))],.c (.d (.v (.int .i64 (i)))),.c (.d (.v (.int .i64 (e))))] []=some (.one (.c (.d (.v (.bool (true))))),[]))(hT:c6 Tryz.prog T1 L1 75 [.agg [.d (.v (.int .i64 (op))),.d (.v (.int .i64 (a)))]] []=some (.tup [.c (.d (.v (.int .i64 (t)))),.c (.d (.v (.int .i64 (u))))],[]))(bt:0<=t∧t<=255)(bu:0<=u∧u<=1)(bv: -1<=v∧v<=20)(hv:0<=v)(hl:t<=v)(hb:v-t+u<=20)(e1:f8 op 23=false)(e2:f8 op 22=false)(e3:f8 op 21=true)(hi:lpI d (.sl 2 R0) cb cl ce e i (v-t+u) 0 N 2 R [[.v (.int .i64 (i+1))],[.v (.int .i64 (a))]]=exI d (.sl 2 R0) cb cl ce e i N R1):lpG d cb cl ce e i N R0 R=lpG d cb cl ce e (i+1) N R0 R1:=by
 have hroom:room=70368744177664:=rfl
 exact lp Y2
theorem f6h(d:D)(cb cl ce e i op a t u v:Int)(N:Nat)(R0 R R1:List (List D))(b1:0<=i∧i<e∧e<=1000)(b2:e<(N:Int)∧(N:Int)<=2000)(hg0:R0[i.toNat]?=some [.v (.int .i64 (op)),.v (.int .i64 (a))])(hg:R[i.toNat]?=some [.v (.int .i64 (v))])(q1:c6 Tryz.prog T1 L1 55 [.c (.d (.v (.int .i64 (op)))),.c (.d (.v (.int .i64 (1)))),.c (.d (.v (.int .i64 (24))))] []=some (.one (.c (.d (.v (.bool (true))))),[]))(q2:c6 Tryz.prog T1 L1 55 [.c (.d (.v (.int .i64 (a)))),.c (.d (.v (.int .i64 (0)))),.c (.d (.v (.int .i64 (255))))] []=some (.one (.c (.d (.v (.bool (true))))),[]))(hA:c6 Tryz.prog T1 L1 74 [.agg [.d d,.d (.sl 2 R0),.d (.v (.int .i64 (cb))),.d (.v (.int .i64 (cl))),.d (.v (.int .i64 (ce)))],.agg [.d (.v (.int .i64 (op))),.d (.v (.int .i64 (a)))],.c (.d (.v (.int .i64 (i)))),.c (.d (.v (.int .i64 (e))))] []=some (.one (.c (.d (.v (.bool (true))))),[]))(hT:c6 Tryz.prog T1 L1 75 [.agg [.d (.v (.int .i64 (op))),.d (.v (.int .i64 (a)))]] []=some (.tup [.c (.d (.v (.int .i64 (t)))),.c (.d (.v (.int .i64 (u))))],[]))(bt:0<=t∧t<=255)(bu:0<=u∧u<=1)(bv: -1<=v∧v<=20)(hv:0<=v)(hl:t<=v)(hb:v-t+u<=20)(e1:f8 op 23=false)(e2:f8 op 22=false)(e3:f8 op 21=true)(hi:lpI d (.sl 2 R0) cb cl ce e i (v-t+u) 0 N 2 R [[.v (.int .i64 (i+1))],[.v (.int .i64 (a))]]=reI d (.sl 2 R0) cb cl ce e i N R1):lpG d cb cl ce e i N R0 R=reG e N R1:=by
 have hroom:room=70368744177664:=rfl
 exact lp Y2
end
end Go.Vsi
