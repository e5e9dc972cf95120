/- What the functions of the program, of the reference and of the law do (a part of it). -/
import Derived.Test.YtbjkeppbogdgcaaGreatZX1
namespace Go.Vsi
open Go.Proofs
noncomputable section
set_option maxRecDepth 100000
set_option maxHeartbeats 4000000
set_option linter.unusedSimpArgs false
set_option linter.unusedVariables false
attribute [local go_sem ↓] v6
def T3(l:List UInt8):Option (List UInt8):=
 match H9 (F8 (nx 94 l) l)with
 |none=>none
 |some (x,y)=>match x with|[]=>none|_::_=>some y
theorem e9c(M:Nat)(l:List UInt8)(R0:List (List D))(hR:R0.length<=100)(hl:l.length<=30):
 Ans M R0 (c6 Tryz.prog T L0 103 [.c (.ptr 0 0 0)] (hP l false R0)) (fun rest a R=>a=R0.length∧ ∃op t,(op=3∨op=4)∧1<=t.length∧t.length+rest.length+1<=l.length∧R=R0++[row op t []]) (T3 l):=by
 have e94:((94:UInt8).toNat:Int)=94:=rfl
 have ht:=X6 94 l false R0
 rw[e94]at ht
 unfold T3
 have hal:(F8 (nx 94 l) l).length<=l.length:=by unfold F8;split<;>simp
 obtain⟨op,hop,hop2⟩: ∃op:Int,(op=3∨op=4)∧op=(if nx 94 l=true then 4 else 3):=⟨_,by split<;>simp,rfl⟩
 generalize nx 94 l=nb at ht hal hop2⊢
 generalize F8 nb l=l1 at ht hal⊢
 have hc:=e3n l1 (by omega)
 cases hm:H9 l1 with
 |none=>
  rw[hm]at hc
  simp only at hc
  refine⟨0,hP l1 true R0,?_,.inl ⟨_,rfl⟩⟩
  clear hm hop hop2
  cases nb<;>cases R0
  all_goals
   simp only[hP]at ht⊢
   exact fn c2z Tryz.func103
 |some z=>
  obtain⟨x,y⟩:=z
  rw[hm]at hc
  simp only at hc
  obtain⟨h1,_⟩:=a0d l1 x y hm
  cases x with
  |nil=>
   refine⟨0,hP l1 true R0,?_,.inl ⟨_,rfl⟩⟩
   clear hm hop hop2 h1
   cases nb<;>cases R0
   all_goals
    simp only[hP]at ht⊢
    exact fn c2z Tryz.func103
  |cons b x=>
   have hlen:(b::x).length+y.length+1=l1.length:=by rw[h1];simp;omega
   have hp:=a4a op (b::x) y false R0 hR
   have e2:((b::x)=[])=False:=by simp
   refine⟨R0.length,R0++[row op (b::x) []],?_,rfl,op,b::x,hop,by simp,by omega,rfl⟩
   clear hm hop h1 hlen
   cases nb<;>cases R0
   all_goals
    simp only[Bool.false_eq_true,if_false,if_true]at hop2
    subst hop2
    simp only[hP,hQ]at ht hp⊢
    refine y0 true (fun _=>c2z.2) c2z.1 Tryz.func103 rfl rfl fun c ht hr=>?_;simp only[m7,List.length_cons,List.length_nil,Nat.reduceAdd,e7,and_true]at c;(try simp(maxSteps:=4000000) (disch:=first|assumption|omega) only[go_sem, *,ht,hc,hp,e2,List.length_append,↓c9,↓d9,Nat.reduceAdd,Nat.reduceSub,Nat.reduceMul,Nat.reduceBEq,Nat.reduceLeDiff,Nat.reduceLT,Nat.reduceDiv,Nat.reduceMod]);repeat' ((first|with_reducible first|refine o8 (fun hb=>?_) fun hb=>?_|refine o9 (fun hb=>?_) fun hb=>?_|refine p8 (fun hb=>?_) fun hb=>?_|refine p9 (fun hb=>?_) fun hb=>?_|refine q7 (fun hb=>?_) fun hb=>?_|refine g7 (fun hb=>?_) fun hb=>?_|rw[i0 rfl])<;>try simp(maxSteps:=4000000) (disch:=first|assumption|omega) only[go_sem, *,ht,hc,hp,e2,List.length_append,↓c9,↓d9,Nat.reduceAdd,Nat.reduceSub,Nat.reduceMul,Nat.reduceBEq,Nat.reduceLeDiff,Nat.reduceLT,Nat.reduceDiv,Nat.reduceMod])
def E7(l:List UInt8):Bool:=l.isEmpty||nx 124 l||nx 41 l
def A5(b:UInt8):Bool:=decide ((b.toNat:Int)=42)||decide ((b.toNat:Int)=43)||decide ((b.toNat:Int)=63)
def z8:List UInt8->List UInt8
 |[]=>[]
 |b::l=>match A5 b with|true=>z8 l|false=>b::l
mutual
def F9:Nat->List UInt8->Option (List UInt8)
 |0,_=>none
 |k+1,l=>match T4 k l with|none=>none|some r=>O4 k r
def O4:Nat->List UInt8->Option (List UInt8)
 |0,_=>none
 |k+1,l=>match nx 124 l with
  |true=>(match T4 k (l.drop 1)with|none=>none|some r=>O4 k r)
  |false=>some l
def T4:Nat->List UInt8->Option (List UInt8)
 |0,_=>none
 |k+1,l=>match E7 l with
  |true=>some l
  |false=>(match G8 k l with|none=>none|some r=>O5 k r)
def O5:Nat->List UInt8->Option (List UInt8)
 |0,_=>none
 |k+1,l=>match E7 l with
  |true=>some l
  |false=>(match G8 k l with|none=>none|some r=>O5 k r)
def G8:Nat->List UInt8->Option (List UInt8)
 |0,_=>none
 |k+1,l=>match y7 k l with|none=>none|some r=>some (z8 r)
def y7:Nat->List UInt8->Option (List UInt8)
 |0,_=>none
 |k+1,l=>match nx 94 l with
  |true=>some (l.drop 1)
  |false=>match nx 36 l with
   |true=>some (l.drop 1)
   |false=>match nx 46 l with
    |true=>some (l.drop 1)
    |false=>match nx 91 l with
     |true=>T3 (l.drop 1)
     |false=>match nx 40 l with
      |true=>(match F9 k (l.drop 1)with
       |none=>none
       |some r=>match nx 41 r with|true=>some (r.drop 1)|false=>none)
      |false=>O9 l
end
def x8(op:Int):Nat:=if op=5∨op=6 then 2 else if op=7∨op=8∨op=9 then 1 else 0
def J3(op:Int)(t:List UInt8):Bool:=if op=1 then decide (t.length=1)else if op=3∨op=4 then decide (1<=t.length∧t.length<=24)else decide (t=[])
def pOK(op:Int)(t:List UInt8)(ks:List Int)(i:Int):Bool:=decide (1<=op∧op<=12)&&J3 op t&&decide (ks.length=x8 op)&&ks.all (fun k=>decide (0<=k∧k<=i-1))
def G9(R:List (List D)):Prop:= ∀(i:Nat)(r:List D),R[i]?=some r-> ∃op t ks,r=row op t ks∧pOK op t ks i=true
theorem y9{R:List (List D)}(h:G9 R){op:Int}{t:List UInt8}{ks:List Int}(hp:pOK op t ks R.length=true):G9 (R++[row op t ks]):=fun i r hr=>by
 by_cases hi:i<R.length
 ·rw[List.getElem?_append_left hi]at hr
  exact h i r hr
 ·rw[List.getElem?_append_right (by omega)]at hr
  cases hd:i-R.length with
  |zero=>
   rw[hd]at hr
   simp at hr
   subst hr
   have:i=R.length:=by omega
   subst this
   exact⟨op,t,ks,rfl,hp⟩
  |succ n=>rw[hd]at hr;simp at hr
theorem I2(c:UInt8)(l:List UInt8)(bad:Bool)(R:List (List D))(hR:1<=R.length):c6 Tryz.prog T L0 90 [.c (.ptr 0 0 0),.c (.d (.v (.int .u8 ((c.toNat:Int)))))] [some (.var [.d (.v (.string (B (l)))),.arr 1 0 R.length,.d (.v (.bool (bad)))]),some (.arr 3 R)]=some (.one (.c (.d (.v (.bool (nx c l))))),[some (.var [.d (.v (.string (B (F8 (nx c l) l)))),.arr 1 0 R.length,.d (.v (.bool (bad)))]),some (.arr 3 R)]):=by
 cases R with
 |nil=>simp at hR
 |cons p ps=>exact X6 c l bad (p::ps)
theorem a8n(c:UInt8)(l:List UInt8)(bad:Bool)(R:List (List D))(hR:1<=R.length):c6 Tryz.prog T L0 96 [.c (.ptr 0 0 0),.c (.d (.v (.int .u8 ((c.toNat:Int)))))] [some (.var [.d (.v (.string (B (l)))),.arr 1 0 R.length,.d (.v (.bool (bad)))]),some (.arr 3 R)]=some (.one (.c (.d (.v (.bool (nx c l))))),[some (.var [.d (.v (.string (B (l)))),.arr 1 0 R.length,.d (.v (.bool (bad)))]),some (.arr 3 R)]):=by
 cases R with
 |nil=>simp at hR
 |cons p ps=>exact c1p c l bad (p::ps)
theorem a4j: ∀(l:List UInt8)(a:Nat)(R:List (List D)),G9 R->a<R.length->R.length+l.length<=100->
 ∃(a':Nat)(R':List (List D)),G9 R'∧a'<R'.length∧R'.length+(z8 l).length=R.length+l.length∧
 g8 Tryz.prog T (c6 Tryz.prog T L0) 97 (cq Tryz.f97 [0,0,0,1,1]) ⟨[.one (.c (.ptr 0 0 0)),J,J,.one (.c (.d (.v (.int .i64 ((a:Int)))))),J,J,J,J,J,J,J,J,J,J,J,J,J,J,J,J,J,J,J,J,J,J,J,J,J,J,J,J,J,J],c7 [some (.var [.d (.v (.string (B (l)))),.arr 1 0 R.length,.d (.v (.bool (false)))]),some (.arr 3 R)],2,1⟩=
  some (.ret,⟨[J,J,.one (.c (.d (.v (.int .i64 ((a':Int)))))),.one (.c (.d (.v (.int .i64 ((a':Int)))))),J,J,J,J,J,J,J,J,J,J,J,J,J,J,J,J,J,J,J,J,J,J,J,J,J,J,J,J,J,J],c7 [some (.var [.d (.v (.string (B (z8 l)))),.arr 1 0 R'.length,.d (.v (.bool (false)))]),some (.arr 3 R')],2,1⟩)
 |[],a,R,hR,ha,hl=>by
  refine⟨a,R,hR,ha,rfl,?_⟩
  have h1:=I2 42 [] false R (by omega)
  have h2:=I2 43 [] false R (by omega)
  have h3:=I2 63 [] false R (by omega)
  simp only[nx,F8,show((42:UInt8).toNat:Int)=42 from rfl,show((43:UInt8).toNat:Int)=43 from rfl,show((63:UInt8).toNat:Int)=63 from rfl]at h1 h2 h3
  simp only[z8]
  clear hR
  exact lp W97
 |b::l,a,R,hR,ha,hl=>by
  have h1:=I2 42 (b::l) false R (by omega)
  have h2:=I2 43 (b::l) false R (by omega)
  have h3:=I2 63 (b::l) false R (by omega)
  simp only[nx,show((42:UInt8).toNat:Int)=42 from rfl,show((43:UInt8).toNat:Int)=43 from rfl,show((63:UInt8).toNat:Int)=63 from rfl]at h1 h2 h3
  have hll:l.length+1=(b::l).length:=rfl
  by_cases c1:(b.toNat:Int)=42
  ·have hr:A5 b=true:=by simp[A5,c1]
   obtain⟨a',R',q1,q2,q3,q4⟩:=a4j l R.length (R++[row 7 [] [(a:Int)]]) (y9 hR (by simp[pOK,J3,x8];omega)) (by simp) (by simp;omega)
   refine⟨a',R',q1,q2,by simp only[z8,hr];simp at q3⊢;omega,?_⟩
   have hp:=B9 7 [] [(a:Int)] (by simp) l false R R.length rfl ⟨by omega,by omega⟩
   rw[decide_eq_true c1]at h1
   simp only[F8,List.drop_succ_cons,List.drop_zero,rI,List.map_cons,List.map_nil,List.length_cons,List.length_nil,Nat.zero_add,Nat.reduceAdd,List.length_append]at h1 hp q4
   simp only[z8,hr]
   rw[<-q4]
   clear q4 hR h2 h3 c1 hr q1 q2 q3
   refine D3 true (fun _=>W97.2) W97.1 rfl fun c hl=>?_;simp only[v8,C4,m7,List.length_cons,List.length_nil,Nat.reduceAdd,e7,and_true]at c hl;(try simp(maxSteps:=4000000) (disch:=first|assumption|omega) only[go_sem, *,h1,hp,List.length_append,↓c9,↓d9,Nat.reduceAdd,Nat.reduceSub,Nat.reduceMul,Nat.reduceBEq,Nat.reduceLeDiff,Nat.reduceLT,Nat.reduceDiv,Nat.reduceMod]);repeat' ((first|with_reducible first|refine o8 (fun hb=>?_) fun hb=>?_|refine o9 (fun hb=>?_) fun hb=>?_|refine p8 (fun hb=>?_) fun hb=>?_|refine p9 (fun hb=>?_) fun hb=>?_|refine q7 (fun hb=>?_) fun hb=>?_|refine g7 (fun hb=>?_) fun hb=>?_|rw[i0 rfl])<;>try simp(maxSteps:=4000000) (disch:=first|assumption|omega) only[go_sem, *,h1,hp,List.length_append,↓c9,↓d9,Nat.reduceAdd,Nat.reduceSub,Nat.reduceMul,Nat.reduceBEq,Nat.reduceLeDiff,Nat.reduceLT,Nat.reduceDiv,Nat.reduceMod])
  ·skip
   by_cases c2:(b.toNat:Int)=43
   ·have hr:A5 b=true:=by simp[A5,c2]
    obtain⟨a',R',q1,q2,q3,q4⟩:=a4j l R.length (R++[row 8 [] [(a:Int)]]) (y9 hR (by simp[pOK,J3,x8];omega)) (by simp) (by simp;omega)
    refine⟨a',R',q1,q2,by simp only[z8,hr];simp at q3⊢;omega,?_⟩
    have hp:=B9 8 [] [(a:Int)] (by simp) l false R R.length rfl ⟨by omega,by omega⟩
    rw[decide_eq_false c1]at h1
    rw[decide_eq_true c2]at h2
    simp only[F8,List.drop_succ_cons,List.drop_zero,rI,List.map_cons,List.map_nil,List.length_cons,List.length_nil,Nat.zero_add,Nat.reduceAdd,List.length_append]at h1 h2 hp q4
    simp only[z8,hr]
    rw[<-q4]
    clear q4 hR h3 c2 c1 hr q1 q2 q3
    refine D3 true (fun _=>W97.2) W97.1 rfl fun c hl=>?_;simp only[v8,C4,m7,List.length_cons,List.length_nil,Nat.reduceAdd,e7,and_true]at c hl;(try simp(maxSteps:=4000000) (disch:=first|assumption|omega) only[go_sem, *,h1,h2,hp,List.length_append,↓c9,↓d9,Nat.reduceAdd,Nat.reduceSub,Nat.reduceMul,Nat.reduceBEq,Nat.reduceLeDiff,Nat.reduceLT,Nat.reduceDiv,Nat.reduceMod]);repeat' ((first|with_reducible first|refine o8 (fun hb=>?_) fun hb=>?_|refine o9 (fun hb=>?_) fun hb=>?_|refine p8 (fun hb=>?_) fun hb=>?_|refine p9 (fun hb=>?_) fun hb=>?_|refine q7 (fun hb=>?_) fun hb=>?_|refine g7 (fun hb=>?_) fun hb=>?_|rw[i0 rfl])<;>try simp(maxSteps:=4000000) (disch:=first|assumption|omega) only[go_sem, *,h1,h2,hp,List.length_append,↓c9,↓d9,Nat.reduceAdd,Nat.reduceSub,Nat.reduceMul,Nat.reduceBEq,Nat.reduceLeDiff,Nat.reduceLT,Nat.reduceDiv,Nat.reduceMod])
   ·skip
    by_cases c3:(b.toNat:Int)=63
    ·have hr:A5 b=true:=by simp[A5,c3]
     obtain⟨a',R',q1,q2,q3,q4⟩:=a4j l R.length (R++[row 9 [] [(a:Int)]]) (y9 hR (by simp[pOK,J3,x8];omega)) (by simp) (by simp;omega)
     refine⟨a',R',q1,q2,by simp only[z8,hr];simp at q3⊢;omega,?_⟩
     have hp:=B9 9 [] [(a:Int)] (by simp) l false R R.length rfl ⟨by omega,by omega⟩
     rw[decide_eq_false c1]at h1
     rw[decide_eq_false c2]at h2
     rw[decide_eq_true c3]at h3
     simp only[F8,List.drop_succ_cons,List.drop_zero,rI,List.map_cons,List.map_nil,List.length_cons,List.length_nil,Nat.zero_add,Nat.reduceAdd,List.length_append]at h1 h2 h3 hp q4
     simp only[z8,hr]
     rw[<-q4]
     clear q4 hR c3 c1 c2 hr q1 q2 q3
     refine D3 true (fun _=>W97.2) W97.1 rfl fun c hl=>?_;simp only[v8,C4,m7,List.length_cons,List.length_nil,Nat.reduceAdd,e7,and_true]at c hl;(try simp(maxSteps:=4000000) (disch:=first|assumption|omega) only[go_sem, *,h1,h2,h3,hp,List.length_append,↓c9,↓d9,Nat.reduceAdd,Nat.reduceSub,Nat.reduceMul,Nat.reduceBEq,Nat.reduceLeDiff,Nat.reduceLT,Nat.reduceDiv,Nat.reduceMod]);repeat' ((first|with_reducible first|refine o8 (fun hb=>?_) fun hb=>?_|refine o9 (fun hb=>?_) fun hb=>?_|refine p8 (fun hb=>?_) fun hb=>?_|refine p9 (fun hb=>?_) fun hb=>?_|refine q7 (fun hb=>?_) fun hb=>?_|refine g7 (fun hb=>?_) fun hb=>?_|rw[i0 rfl])<;>try simp(maxSteps:=4000000) (disch:=first|assumption|omega) only[go_sem, *,h1,h2,h3,hp,List.length_append,↓c9,↓d9,Nat.reduceAdd,Nat.reduceSub,Nat.reduceMul,Nat.reduceBEq,Nat.reduceLeDiff,Nat.reduceLT,Nat.reduceDiv,Nat.reduceMod])
    ·skip
     have hr:A5 b=false:=by simp[A5,c1,c2,c3]
     refine⟨a,R,hR,ha,by simp only[z8,hr],?_⟩
     rw[decide_eq_false c1]at h1
     rw[decide_eq_false c2]at h2
     rw[decide_eq_false c3]at h3
     simp only[F8]at h1 h2 h3
     simp only[z8,hr]
     clear hR c1 c2 c3 hr
     exact lp W97
theorem a4k: ∀(l:List UInt8)(a:Nat)(R:List (List D)),G9 R->a<R.length->R.length+l.length<=100->
 ∃(a':Nat)(R':List (List D)),G9 R'∧a'<R'.length∧R'.length+(z8 l).length=R.length+l.length∧
 g8 Tryz.prog T (c6 Tryz.prog T L0) 97 (cq Tryz.f97 [0,0,0,1,1]) ⟨[.one (.c (.ptr 0 0 0)),J,J,.one (.c (.d (.v (.int .i64 ((a:Int)))))),J,J,J,J,J,J,J,J,J,J,J,J,J,J,J,J,J,J,J,J,J,J,J,J,J,J,J,J,J,J],c7 [some (.var [.d (.v (.string (B (l)))),.arr 2 0 R.length,.d (.v (.bool (false)))]),none,some (.arr 3 R)],3,2⟩=
  some (.ret,⟨[J,J,.one (.c (.d (.v (.int .i64 ((a':Int)))))),.one (.c (.d (.v (.int .i64 ((a':Int)))))),J,J,J,J,J,J,J,J,J,J,J,J,J,J,J,J,J,J,J,J,J,J,J,J,J,J,J,J,J,J],c7 [some (.var [.d (.v (.string (B (z8 l)))),.arr 2 0 R'.length,.d (.v (.bool (false)))]),none,some (.arr 3 R')],3,2⟩)
 |[],a,R,hR,ha,hl=>by
  refine⟨a,R,hR,ha,rfl,?_⟩
  have h1:=I2 42 [] false R (by omega)
  have h2:=I2 43 [] false R (by omega)
  have h3:=I2 63 [] false R (by omega)
  simp only[nx,F8,show((42:UInt8).toNat:Int)=42 from rfl,show((43:UInt8).toNat:Int)=43 from rfl,show((63:UInt8).toNat:Int)=63 from rfl]at h1 h2 h3
  simp only[z8]
  clear hR
  exact lp W97
 |b::l,a,R,hR,ha,hl=>by
  have h1:=I2 42 (b::l) false R (by omega)
  have h2:=I2 43 (b::l) false R (by omega)
  have h3:=I2 63 (b::l) false R (by omega)
  simp only[nx,show((42:UInt8).toNat:Int)=42 from rfl,show((43:UInt8).toNat:Int)=43 from rfl,show((63:UInt8).toNat:Int)=63 from rfl]at h1 h2 h3
  have hll:l.length+1=(b::l).length:=rfl
  by_cases c1:(b.toNat:Int)=42
  ·have hr:A5 b=true:=by simp[A5,c1]
   obtain⟨a',R',q1,q2,q3,q4⟩:=a4k l R.length (R++[row 7 [] [(a:Int)]]) (y9 hR (by simp[pOK,J3,x8];omega)) (by simp) (by simp;omega)
   refine⟨a',R',q1,q2,by simp only[z8,hr];simp at q3⊢;omega,?_⟩
   have hp:=B9 7 [] [(a:Int)] (by simp) l false R R.length rfl ⟨by omega,by omega⟩
   rw[decide_eq_true c1]at h1
   simp only[F8,List.drop_succ_cons,List.drop_zero,rI,List.map_cons,List.map_nil,List.length_cons,List.length_nil,Nat.zero_add,Nat.reduceAdd,List.length_append]at h1 hp q4
   simp only[z8,hr]
   rw[<-q4]
   clear q4 hR h2 h3 c1 hr q1 q2 q3
   refine D3 true (fun _=>W97.2) W97.1 rfl fun c hl=>?_;simp only[v8,C4,m7,List.length_cons,List.length_nil,Nat.reduceAdd,e7,and_true]at c hl;(try simp(maxSteps:=4000000) (disch:=first|assumption|omega) only[go_sem, *,h1,hp,List.length_append,↓c9,↓d9,Nat.reduceAdd,Nat.reduceSub,Nat.reduceMul,Nat.reduceBEq,Nat.reduceLeDiff,Nat.reduceLT,Nat.reduceDiv,Nat.reduceMod]);repeat' ((first|with_reducible first|refine o8 (fun hb=>?_) fun hb=>?_|refine o9 (fun hb=>?_) fun hb=>?_|refine p8 (fun hb=>?_) fun hb=>?_|refine p9 (fun hb=>?_) fun hb=>?_|refine q7 (fun hb=>?_) fun hb=>?_|refine g7 (fun hb=>?_) fun hb=>?_|rw[i0 rfl])<;>try simp(maxSteps:=4000000) (disch:=first|assumption|omega) only[go_sem, *,h1,hp,List.length_append,↓c9,↓d9,Nat.reduceAdd,Nat.reduceSub,Nat.reduceMul,Nat.reduceBEq,Nat.reduceLeDiff,Nat.reduceLT,Nat.reduceDiv,Nat.reduceMod])
  ·skip
   by_cases c2:(b.toNat:Int)=43
   ·have hr:A5 b=true:=by simp[A5,c2]
    obtain⟨a',R',q1,q2,q3,q4⟩:=a4k l R.length (R++[row 8 [] [(a:Int)]]) (y9 hR (by simp[pOK,J3,x8];omega)) (by simp) (by simp;omega)
    refine⟨a',R',q1,q2,by simp only[z8,hr];simp at q3⊢;omega,?_⟩
    have hp:=B9 8 [] [(a:Int)] (by simp) l false R R.length rfl ⟨by omega,by omega⟩
    rw[decide_eq_false c1]at h1
    rw[decide_eq_true c2]at h2
    simp only[F8,List.drop_succ_cons,List.drop_zero,rI,List.map_cons,List.map_nil,List.length_cons,List.length_nil,Nat.zero_add,Nat.reduceAdd,List.length_append]at h1 h2 hp q4
    simp only[z8,hr]
    rw[<-q4]
    clear q4 hR h3 c2 c1 hr q1 q2 q3
    refine D3 true (fun _=>W97.2) W97.1 rfl fun c hl=>?_;simp only[v8,C4,m7,List.length_cons,List.length_nil,Nat.reduceAdd,e7,and_true]at c hl;(try simp(maxSteps:=4000000) (disch:=first|assumption|omega) only[go_sem, *,h1,h2,hp,List.length_append,↓c9,↓d9,Nat.reduceAdd,Nat.reduceSub,Nat.reduceMul,Nat.reduceBEq,Nat.reduceLeDiff,Nat.reduceLT,Nat.reduceDiv,Nat.reduceMod]);repeat' ((first|with_reducible first|refine o8 (fun hb=>?_) fun hb=>?_|refine o9 (fun hb=>?_) fun hb=>?_|refine p8 (fun hb=>?_) fun hb=>?_|refine p9 (fun hb=>?_) fun hb=>?_|refine q7 (fun hb=>?_) fun hb=>?_|refine g7 (fun hb=>?_) fun hb=>?_|rw[i0 rfl])<;>try simp(maxSteps:=4000000) (disch:=first|assumption|omega) only[go_sem, *,h1,h2,hp,List.length_append,↓c9,↓d9,Nat.reduceAdd,Nat.reduceSub,Nat.reduceMul,Nat.reduceBEq,Nat.reduceLeDiff,Nat.reduceLT,Nat.reduceDiv,Nat.reduceMod])
   ·skip
    by_cases c3:(b.toNat:Int)=63
    ·have hr:A5 b=true:=by simp[A5,c3]
     obtain⟨a',R',q1,q2,q3,q4⟩:=a4k l R.length (R++[row 9 [] [(a:Int)]]) (y9 hR (by simp[pOK,J3,x8];omega)) (by simp) (by simp;omega)
     refine⟨a',R',q1,q2,by simp only[z8,hr];simp at q3⊢;omega,?_⟩
     have hp:=B9 9 [] [(a:Int)] (by simp) l false R R.length rfl ⟨by omega,by omega⟩
     rw[decide_eq_false c1]at h1
     rw[decide_eq_false c2]at h2
     rw[decide_eq_true c3]at h3
     simp only[F8,List.drop_succ_cons,List.drop_zero,rI,List.map_cons,List.map_nil,List.length_cons,List.length_nil,Nat.zero_add,Nat.reduceAdd,List.length_append]at h1 h2 h3 hp q4
     simp only[z8,hr]
     rw[<-q4]
     clear q4 hR c3 c1 c2 hr q1 q2 q3
     refine D3 true (fun _=>W97.2) W97.1 rfl fun c hl=>?_;simp only[v8,C4,m7,List.length_cons,List.length_nil,Nat.reduceAdd,e7,and_true]at c hl;(try simp(maxSteps:=4000000) (disch:=first|assumption|omega) only[go_sem, *,h1,h2,h3,hp,List.length_append,↓c9,↓d9,Nat.reduceAdd,Nat.reduceSub,Nat.reduceMul,Nat.reduceBEq,Nat.reduceLeDiff,Nat.reduceLT,Nat.reduceDiv,Nat.reduceMod]);repeat' ((first|with_reducible first|refine o8 (fun hb=>?_) fun hb=>?_|refine o9 (fun hb=>?_) fun hb=>?_|refine p8 (fun hb=>?_) fun hb=>?_|refine p9 (fun hb=>?_) fun hb=>?_|refine q7 (fun hb=>?_) fun hb=>?_|refine g7 (fun hb=>?_) fun hb=>?_|rw[i0 rfl])<;>try simp(maxSteps:=4000000) (disch:=first|assumption|omega) only[go_sem, *,h1,h2,h3,hp,List.length_append,↓c9,↓d9,Nat.reduceAdd,Nat.reduceSub,Nat.reduceMul,Nat.reduceBEq,Nat.reduceLeDiff,Nat.reduceLT,Nat.reduceDiv,Nat.reduceMod])
    ·skip
     have hr:A5 b=false:=by simp[A5,c1,c2,c3]
     refine⟨a,R,hR,ha,by simp only[z8,hr],?_⟩
     rw[decide_eq_false c1]at h1
     rw[decide_eq_false c2]at h2
     rw[decide_eq_false c3]at h3
     simp only[F8]at h1 h2 h3
     simp only[z8,hr]
     clear hR c1 c2 c3 hr
     exact lp W97
def f8c(c:Nat)(l:List UInt8)(R0:List (List D))(rest:List UInt8)(a:Nat)(R:List (List D)):Prop:=
 G9 R∧a<R.length∧(R0.length<R.length∧R.length+2*rest.length+1<=R0.length+2*l.length+2*c)∧rest.length+(1-c)<=l.length
def PI(f:FuncId)(m:Nat->List UInt8->Option (List UInt8))(c k0 k:Nat):Prop:= ∀(l:List UInt8)(R0:List (List D)),6*l.length+k0<=k->G9 R0->R0.length+2*l.length<=58+(1-c)->l.length<=24->
 Ans (R0.length+2*l.length+2*c+1) R0 (c6 Tryz.prog T L0 f [.c (.ptr 0 0 0)] (hP l false R0)) (f8c c l R0) (m k l)
theorem c3h: ∀l:List UInt8,(z8 l).length<=l.length
 |[]=>Nat.le_refl _
 |b::l=>by
  have:=c3h l
  unfold z8
  split<;>simp<;>omega
theorem d9e(k:Nat)(h:PI 101 y7 0 3 k):PI 97 G8 0 4 (k+1):=by
 intro l R0 hk hR hlen h24
 have hb:=h l R0 (by omega) hR hlen h24
 simp only[G8]
 cases hm:y7 k l with
 |none=>
  rw[hm]at hb
  obtain⟨w,bs,e,hbs⟩:=hb
  refine⟨w,bs,?_,hbs⟩
  clear hm h hR hlen hk
  rcases hbs with⟨l',rfl⟩|⟨l',R,h1,h2,rfl⟩
  ·cases R0
   all_goals
    simp only[hP]at e⊢
    refine y0 true (fun _=>W97.2) W97.1 Tryz.func97 rfl rfl fun c ht hr=>?_;simp only[m7,List.length_cons,List.length_nil,Nat.reduceAdd,e7,and_true]at c;(try simp(maxSteps:=4000000) (disch:=first|assumption|omega) only[go_sem, *,e,i1,↓c9,↓d9,Nat.reduceAdd,Nat.reduceSub,Nat.reduceMul,Nat.reduceBEq,Nat.reduceLeDiff,Nat.reduceLT,Nat.reduceDiv,Nat.reduceMod]);repeat' ((first|with_reducible first|refine o8 (fun hb=>?_) fun hb=>?_|refine o9 (fun hb=>?_) fun hb=>?_|refine p8 (fun hb=>?_) fun hb=>?_|refine p9 (fun hb=>?_) fun hb=>?_|refine q7 (fun hb=>?_) fun hb=>?_|refine g7 (fun hb=>?_) fun hb=>?_|rw[i0 rfl])<;>try simp(maxSteps:=4000000) (disch:=first|assumption|omega) only[go_sem, *,e,i1,↓c9,↓d9,Nat.reduceAdd,Nat.reduceSub,Nat.reduceMul,Nat.reduceBEq,Nat.reduceLeDiff,Nat.reduceLT,Nat.reduceDiv,Nat.reduceMod])
  ·cases R0
   all_goals
    simp only[hP,hQ]at e⊢
    refine y0 true (fun _=>W97.2) W97.1 Tryz.func97 rfl rfl fun c ht hr=>?_;simp only[m7,List.length_cons,List.length_nil,Nat.reduceAdd,e7,and_true]at c;(try simp(maxSteps:=4000000) (disch:=first|assumption|omega) only[go_sem, *,e,i1,↓c9,↓d9,Nat.reduceAdd,Nat.reduceSub,Nat.reduceMul,Nat.reduceBEq,Nat.reduceLeDiff,Nat.reduceLT,Nat.reduceDiv,Nat.reduceMod]);repeat' ((first|with_reducible first|refine o8 (fun hb=>?_) fun hb=>?_|refine o9 (fun hb=>?_) fun hb=>?_|refine p8 (fun hb=>?_) fun hb=>?_|refine p9 (fun hb=>?_) fun hb=>?_|refine q7 (fun hb=>?_) fun hb=>?_|refine g7 (fun hb=>?_) fun hb=>?_|rw[i0 rfl])<;>try simp(maxSteps:=4000000) (disch:=first|assumption|omega) only[go_sem, *,e,i1,↓c9,↓d9,Nat.reduceAdd,Nat.reduceSub,Nat.reduceMul,Nat.reduceBEq,Nat.reduceLeDiff,Nat.reduceLT,Nat.reduceDiv,Nat.reduceMod])
 |some r=>
  rw[hm]at hb
  obtain⟨a,R,e,g1,g2,g3,g4⟩:=hb
  have hle:=c3h r
  clear hm h
  cases R0 with
  |nil=>
   obtain⟨a',R',q1,q2,q3,q4⟩:=a4j r a R g1 g2 (by simp at g3 hlen;omega)
   refine⟨a',R',?_,q1,q2,by simp at g3⊢;omega,by simp at g4⊢;omega⟩
   clear q1 q2 q3 g1 g2 g3 g4 hR hlen hk hle
   simp only[hP,hQ]at e⊢
   exact fn W97 Tryz.func97
  |cons p ps=>
   obtain⟨a',R',q1,q2,q3,q4⟩:=a4k r a R g1 g2 (by simp at g3 hlen;omega)
   refine⟨a',R',?_,q1,q2,by simp at g3⊢;omega,by simp at g4⊢;omega⟩
   clear q1 q2 q3 g1 g2 g3 g4 hR hlen hk hle
   simp only[hP,hQ]at e⊢
   exact fn W97 Tryz.func97
def b7h(k:Nat)(l:List UInt8):Option (List UInt8):=match F9 k l with
 |none=>none
 |some r=>match nx 41 r with|true=>some (r.drop 1)|false=>none
theorem d9f(M k:Nat)(h:PI 85 F9 1 6 k)(l:List UInt8)(R0:List (List D))(hk:6*l.length+6<=k)(hR:G9 R0)(hlen:R0.length+2*l.length<=58)(h24:l.length<=24)(hM:R0.length+2*l.length+3<=M):
 Ans M R0 (c6 Tryz.prog T L0 104 [.c (.ptr 0 0 0)] (hP l false R0)) (fun rest a R=>G9 R∧a<R.length∧(R0.length<R.length∧R.length+2*rest.length+1<=R0.length+2*l.length)∧rest.length+1<=l.length) (b7h k l):=by
 have hb:=h l R0 (by omega) hR (by omega) h24
 have e41:((41:UInt8).toNat:Int)=41:=rfl
 simp only[b7h]
 cases hm:F9 k l with
 |none=>
  rw[hm]at hb
  obtain⟨w,bs,e,hbs⟩:=hb
  clear hm h hR hlen hk
  rcases hbs with⟨l',rfl⟩|⟨l',R,h1,h2,rfl⟩
  ·have ht:=X6 41 l' true R0
   rw[e41]at ht
   refine⟨w,hP (F8 (nx 41 l') l') true R0,?_,.inl ⟨_,rfl⟩⟩
   generalize F8 (nx 41 l') l'=l2 at ht⊢
   generalize nx 41 l'=nb at ht
   cases nb<;>cases R0
   all_goals
    simp only[hP]at e ht⊢
    exact fn c3a Tryz.func104
  ·have h2:R.length<=M:=by omega
   have ht:=I2 41 l' true R h1
   rw[e41]at ht
   refine⟨w,hQ R0 (F8 (nx 41 l') l') true R,?_,.inr ⟨_,R,h1,h2,rfl⟩⟩
   generalize F8 (nx 41 l') l'=l2 at ht⊢
   generalize nx 41 l'=nb at ht
   cases nb<;>cases R0
   all_goals
    simp only[hP,hQ]at e ht⊢
    exact fn c3a Tryz.func104
 |some r=>
  rw[hm]at hb
  obtain⟨a,R,e,g1,g2,g3,g4⟩:=hb
  have ht:=I2 41 r false R (by omega)
  rw[e41]at ht
  have hdl:nx 41 r=true->(r.drop 1).length+1=r.length:=by cases r with|nil=>simp[nx]|cons=>simp
  clear hm h
  simp only
  generalize nx 41 r=nb at ht hdl⊢
  cases nb with
  |true=>
   replace hdl:=hdl rfl
   refine⟨a,R,?_,g1,g2,by omega,by omega⟩
   clear g1 g2 g3 g4 hR hlen hk hdl
   simp only[F8]at ht
   cases R0
   all_goals
    simp only[hP,hQ]at e ht⊢
    exact fn c3a Tryz.func104
  |false=>
   refine⟨a,hQ R0 r true R,?_,.inr ⟨r,R,by omega,by omega,rfl⟩⟩
   clear g1 g2 g3 g4 hR hlen hk hdl
   simp only[F8]at ht
   cases R0
   all_goals
    simp only[hP,hQ]at e ht⊢
    exact fn c3a Tryz.func104
end
end Go.Vsi
namespace Go.Vsi
open Go.Proofs
noncomputable section
set_option maxRecDepth 100000
set_option maxHeartbeats 4000000
set_option linter.unusedSimpArgs false
set_option linter.unusedVariables false
attribute [local go_sem ↓] v6
theorem a4b{c:UInt8}{l:List UInt8}(h:nx c l=true):(l.drop 1).length+1=l.length:=by
 cases l with
 |nil=>simp[nx]at h
 |cons=>simp
theorem d0o(l rest:List UInt8)(h:O9 l=some rest):rest.length+1<=l.length:=by
 cases l with
 |nil=>cases h
 |cons b l=>
  simp only[O9]at h
  split at h
  ·cases l with
   |nil=>cases h
   |cons c r=>
    simp only at h
    split at h
    ·obtain rfl:=Option.some.inj h
     simp
    ·cases h
  ·split at h
   ·cases h
   ·obtain rfl:=Option.some.inj h
    simp
theorem e3o(k:Nat)(h:PI 85 F9 1 6 k):PI 101 y7 0 3 (k+1):=by
 intro l R0 hk hR hlen h24
 have h1:=X6 94 l false R0
 have h2:=X6 36 l false R0
 have h3:=X6 46 l false R0
 have h4:=X6 91 l false R0
 have h5:=X6 40 l false R0
 simp only[show((94:UInt8).toNat:Int)=94 from rfl,show((36:UInt8).toNat:Int)=36 from rfl,show((46:UInt8).toNat:Int)=46 from rfl,show((91:UInt8).toNat:Int)=91 from rfl,show((40:UInt8).toNat:Int)=40 from rfl]at h1 h2 h3 h4 h5
 simp only[y7]
 cases c1:nx 94 l with
 |true=>
  have hd:=a4b c1
  have hp:=a4a 10 [] (l.drop 1) false R0 (by omega)
  refine⟨R0.length,R0++[row 10 [] []],?_,y9 hR (by simp[pOK,J3,x8]),by simp,by simp;omega,by omega⟩
  rw[c1]at h1
  simp only[F8]at h1
  generalize l.drop 1=l1 at h1 hp⊢
  clear h2 h3 h4 h5 c1 hd hR hlen hk h
  cases R0
  all_goals
   simp only[hP,hQ]at h1 hp⊢
   refine y0 true (fun _=>a0y.2) a0y.1 Tryz.func101 rfl rfl fun c ht hr=>?_;simp only[m7,List.length_cons,List.length_nil,Nat.reduceAdd,e7,and_true]at c;(try simp(maxSteps:=4000000) (disch:=first|assumption|omega) only[go_sem, *,h1,hp,List.length_append,↓c9,↓d9,Nat.reduceAdd,Nat.reduceSub,Nat.reduceMul,Nat.reduceBEq,Nat.reduceLeDiff,Nat.reduceLT,Nat.reduceDiv,Nat.reduceMod]);repeat' ((first|with_reducible first|refine o8 (fun hb=>?_) fun hb=>?_|refine o9 (fun hb=>?_) fun hb=>?_|refine p8 (fun hb=>?_) fun hb=>?_|refine p9 (fun hb=>?_) fun hb=>?_|refine q7 (fun hb=>?_) fun hb=>?_|refine g7 (fun hb=>?_) fun hb=>?_|rw[i0 rfl])<;>try simp(maxSteps:=4000000) (disch:=first|assumption|omega) only[go_sem, *,h1,hp,List.length_append,↓c9,↓d9,Nat.reduceAdd,Nat.reduceSub,Nat.reduceMul,Nat.reduceBEq,Nat.reduceLeDiff,Nat.reduceLT,Nat.reduceDiv,Nat.reduceMod])
 |false=>
  simp only
  cases c2:nx 36 l with
  |true=>
   have hd:=a4b c2
   have hp:=a4a 11 [] (l.drop 1) false R0 (by omega)
   refine⟨R0.length,R0++[row 11 [] []],?_,y9 hR (by simp[pOK,J3,x8]),by simp,by simp;omega,by omega⟩
   rw[c2]at h2
   rw[c1]at h1
   simp only[F8]at h1 h2
   generalize l.drop 1=l1 at h2 hp⊢
   clear h3 h4 h5 c2 c1 hd hR hlen hk h
   cases R0
   all_goals
    simp only[hP,hQ]at h1 h2 hp⊢
    refine y0 true (fun _=>a0y.2) a0y.1 Tryz.func101 rfl rfl fun c ht hr=>?_;simp only[m7,List.length_cons,List.length_nil,Nat.reduceAdd,e7,and_true]at c;(try simp(maxSteps:=4000000) (disch:=first|assumption|omega) only[go_sem, *,h1,h2,hp,List.length_append,↓c9,↓d9,Nat.reduceAdd,Nat.reduceSub,Nat.reduceMul,Nat.reduceBEq,Nat.reduceLeDiff,Nat.reduceLT,Nat.reduceDiv,Nat.reduceMod]);repeat' ((first|with_reducible first|refine o8 (fun hb=>?_) fun hb=>?_|refine o9 (fun hb=>?_) fun hb=>?_|refine p8 (fun hb=>?_) fun hb=>?_|refine p9 (fun hb=>?_) fun hb=>?_|refine q7 (fun hb=>?_) fun hb=>?_|refine g7 (fun hb=>?_) fun hb=>?_|rw[i0 rfl])<;>try simp(maxSteps:=4000000) (disch:=first|assumption|omega) only[go_sem, *,h1,h2,hp,List.length_append,↓c9,↓d9,Nat.reduceAdd,Nat.reduceSub,Nat.reduceMul,Nat.reduceBEq,Nat.reduceLeDiff,Nat.reduceLT,Nat.reduceDiv,Nat.reduceMod])
  |false=>
   simp only
   cases c3:nx 46 l with
   |true=>
    have hd:=a4b c3
    have hp:=a4a 2 [] (l.drop 1) false R0 (by omega)
    refine⟨R0.length,R0++[row 2 [] []],?_,y9 hR (by simp[pOK,J3,x8]),by simp,by simp;omega,by omega⟩
    rw[c3]at h3
    rw[c1]at h1
    rw[c2]at h2
    simp only[F8]at h1 h2 h3
    generalize l.drop 1=l1 at h3 hp⊢
    clear h4 h5 c3 c1 c2 hd hR hlen hk h
    cases R0
    all_goals
     simp only[hP,hQ]at h1 h2 h3 hp⊢
     refine y0 true (fun _=>a0y.2) a0y.1 Tryz.func101 rfl rfl fun c ht hr=>?_;simp only[m7,List.length_cons,List.length_nil,Nat.reduceAdd,e7,and_true]at c;(try simp(maxSteps:=4000000) (disch:=first|assumption|omega) only[go_sem, *,h1,h2,h3,hp,List.length_append,↓c9,↓d9,Nat.reduceAdd,Nat.reduceSub,Nat.reduceMul,Nat.reduceBEq,Nat.reduceLeDiff,Nat.reduceLT,Nat.reduceDiv,Nat.reduceMod]);repeat' ((first|with_reducible first|refine o8 (fun hb=>?_) fun hb=>?_|refine o9 (fun hb=>?_) fun hb=>?_|refine p8 (fun hb=>?_) fun hb=>?_|refine p9 (fun hb=>?_) fun hb=>?_|refine q7 (fun hb=>?_) fun hb=>?_|refine g7 (fun hb=>?_) fun hb=>?_|rw[i0 rfl])<;>try simp(maxSteps:=4000000) (disch:=first|assumption|omega) only[go_sem, *,h1,h2,h3,hp,List.length_append,↓c9,↓d9,Nat.reduceAdd,Nat.reduceSub,Nat.reduceMul,Nat.reduceBEq,Nat.reduceLeDiff,Nat.reduceLT,Nat.reduceDiv,Nat.reduceMod])
   |false=>
    simp only
    cases c4:nx 91 l with
    |true=>
     have hd:=a4b c4
     simp only
     have hs:=e9c (R0.length+2*l.length+2*0+1) (l.drop 1) R0 (by omega) (by omega)
     rw[c1]at h1
     rw[c2]at h2
     rw[c3]at h3
     rw[c4]at h4
     simp only[F8]at h1 h2 h3 h4
     clear h5 c1 c2 c3 c4 h
     generalize l.drop 1=l1 at h4 hs hd⊢
     cases hm:T3 l1 with
     |none=>
      rw[hm]at hs
      clear hm hd hk hR hlen
      obtain⟨w,bs,e,hbs⟩:=hs
      refine⟨w,bs,?_,hbs⟩
      rcases hbs with⟨l',rfl⟩|⟨l',R,z1,z2,rfl⟩
      ·cases R0
       all_goals
        simp only[hP]at h1 h2 h3 h4 e⊢
        exact fn a0y Tryz.func101
      ·cases R0
       all_goals
        simp only[hP,hQ]at h1 h2 h3 h4 e⊢
        exact fn a0y Tryz.func101
     |some r=>
      rw[hm]at hs
      obtain⟨a,R,e,ea,op,t,eo,et1,et2,eR⟩:=hs
      refine⟨a,R,?_,?_,?_,?_,?_⟩
      ·clear hm hd hk hR hlen ea eo et1 et2 eR
       cases R0
       all_goals
        simp only[hP,hQ]at h1 h2 h3 h4 e⊢
        exact fn a0y Tryz.func101
      ·rw[eR]
       exact y9 hR (by rcases eo with rfl|rfl<;>simp[pOK,J3,x8]<;>omega)
      ·rw[eR,ea];simp
      ·rw[eR];simp;omega
      ·omega
    |false=>
     simp only
     rw[c1]at h1
     rw[c2]at h2
     rw[c3]at h3
     rw[c4]at h4
     clear c1 c2 c3 c4
     cases c5:nx 40 l with
     |true=>
      have hd:=a4b c5
      rw[c5]at h5
      simp only[F8]at h1 h2 h3 h4 h5
      have hs:=d9f (R0.length+2*l.length+2*0+1) k h (l.drop 1) R0 (by omega) hR (by omega) (by omega) (by omega)
      show Ans _ R0 _ _ (b7h k (l.drop 1))
      clear c5 h
      generalize l.drop 1=l1 at h5 hs hd⊢
      cases hm:b7h k l1 with
      |none=>
       rw[hm]at hs
       clear hm hd hk hR hlen
       obtain⟨w,bs,e,hbs⟩:=hs
       refine⟨w,bs,?_,hbs⟩
       rcases hbs with⟨l',rfl⟩|⟨l',R,z1,z2,rfl⟩
       ·cases R0
        all_goals
         simp only[hP]at h1 h2 h3 h4 h5 e⊢
         exact fn a0y Tryz.func101
       ·cases R0
        all_goals
         simp only[hP,hQ]at h1 h2 h3 h4 h5 e⊢
         exact fn a0y Tryz.func101
      |some r=>
       rw[hm]at hs
       obtain⟨a,R,e,g1,g2,g3,g4⟩:=hs
       refine⟨a,R,?_,g1,g2,by omega,by omega⟩
       clear hm hd hk hR hlen g1 g2 g3 g4
       cases R0
       all_goals
        simp only[hP,hQ]at h1 h2 h3 h4 h5 e⊢
        exact fn a0y Tryz.func101
     |false=>
      rw[c5]at h5
      simp only[F8]at h1 h2 h3 h4 h5
      have hs:=d4k (R0.length+2*l.length+2*0+1) l R0 (by omega) (by omega)
      simp only
      clear c5 h
      cases hm:O9 l with
      |none=>
       rw[hm]at hs
       clear hm hk hR hlen
       obtain⟨w,bs,e,hbs⟩:=hs
       refine⟨w,bs,?_,hbs⟩
       rcases hbs with⟨l',rfl⟩|⟨l',R,z1,z2,rfl⟩
       ·cases R0
        all_goals
         simp only[hP]at h1 h2 h3 h4 h5 e⊢
         exact fn a0y Tryz.func101
       ·cases R0
        all_goals
         simp only[hP,hQ]at h1 h2 h3 h4 h5 e⊢
         exact fn a0y Tryz.func101
      |some r=>
       have hle:=d0o l r hm
       rw[hm]at hs
       obtain⟨a,R,e,ea,t,et,eR⟩:=hs
       refine⟨a,R,?_,?_,?_,?_,?_⟩
       ·clear hm hle hk hR hlen ea et eR
        cases R0
        all_goals
         simp only[hP,hQ]at h1 h2 h3 h4 h5 e⊢
         exact fn a0y Tryz.func101
       ·rw[eR]
        exact y9 hR (by simp[pOK,J3,x8,et])
       ·rw[eR,ea];simp
       ·rw[eR];simp;omega
       ·omega
end
end Go.Vsi
