/- What the functions of the program, of the reference and of the law do (a part of it). -/
import Derived.Test.YtbjkeppbogdgcaaGreatZX9
namespace Go.Vsi
open Go.Proofs
noncomputable section
set_option maxRecDepth 100000
set_option maxHeartbeats 4000000
set_option linter.unusedSimpArgs false
set_option linter.unusedVariables false
attribute [local go_sem ↓] v6
theorem e9d(k:Nat)(hT: ∀j,j<k+1->PI 97 G8 0 4 j):PI 89 T4 1 5 (k+1):=by
 intro l R0 hk hR hlen h24
 have h1:=c1p 124 l false R0
 have h2:=c1p 41 l false R0
 simp only[show((124:UInt8).toNat:Int)=124 from rfl,show((41:UInt8).toNat:Int)=41 from rfl]at h1 h2
 simp only[T4]
 cases hs:E7 l with
 |true=>
  have hp:=a4a 12 [] l false R0 (by omega)
  refine⟨R0.length,R0++[row 12 [] []],?_,y9 hR (by simp[pOK,J3,x8]),by simp,by simp;omega,by omega⟩
  cases l with
  |nil=>
   clear hs hT hR hlen hk
   cases R0
   all_goals
    simp only[hP,hQ]at h1 h2 hp⊢
    refine y0 true (fun _=>L8.2) L8.1 Tryz.func89 rfl rfl fun c ht hr=>?_;simp only[m7,List.length_cons,List.length_nil,Nat.reduceAdd,e7,and_true]at c;(try simp(maxSteps:=4000000) (disch:=first|assumption|omega) only[go_sem, *,h1,h2,hp,List.length_append,↓c9,↓d9,Nat.reduceAdd,Nat.reduceSub,Nat.reduceMul,Nat.reduceBEq,Nat.reduceLeDiff,Nat.reduceLT,Nat.reduceDiv,Nat.reduceMod]);repeat' ((first|with_reducible first|refine o8 (fun hb=>?_) fun hb=>?_|refine o9 (fun hb=>?_) fun hb=>?_|refine p8 (fun hb=>?_) fun hb=>?_|refine p9 (fun hb=>?_) fun hb=>?_|refine q7 (fun hb=>?_) fun hb=>?_|refine g7 (fun hb=>?_) fun hb=>?_|rw[i0 rfl])<;>try simp(maxSteps:=4000000) (disch:=first|assumption|omega) only[go_sem, *,h1,h2,hp,List.length_append,↓c9,↓d9,Nat.reduceAdd,Nat.reduceSub,Nat.reduceMul,Nat.reduceBEq,Nat.reduceLeDiff,Nat.reduceLT,Nat.reduceDiv,Nat.reduceMod])
  |cons b t=>
   have e2:((b::t)=[])=False:=by simp
   have hs2:nx 124 (b::t)=true∨(nx 124 (b::t)=false∧nx 41 (b::t)=true):=by
    cases hx:nx 124 (b::t)with
    |true=>exact .inl rfl
    |false=>exact .inr ⟨rfl,by simpa [E7,hx]using hs⟩
   generalize nx 124 (b::t)=n1 at h1 hs2
   generalize nx 41 (b::t)=n2 at h2 hs2
   clear hs hT hR hlen hk
   rcases hs2 with rfl|⟨rfl,rfl⟩<;>cases R0
   all_goals
    simp only[hP,hQ]at h1 h2 hp⊢
    refine y0 true (fun _=>L8.2) L8.1 Tryz.func89 rfl rfl fun c ht hr=>?_;simp only[m7,List.length_cons,List.length_nil,Nat.reduceAdd,e7,and_true]at c;(try simp(maxSteps:=4000000) (disch:=first|assumption|omega) only[go_sem, *,h1,h2,hp,e2,List.length_append,↓c9,↓d9,Nat.reduceAdd,Nat.reduceSub,Nat.reduceMul,Nat.reduceBEq,Nat.reduceLeDiff,Nat.reduceLT,Nat.reduceDiv,Nat.reduceMod]);repeat' ((first|with_reducible first|refine o8 (fun hb=>?_) fun hb=>?_|refine o9 (fun hb=>?_) fun hb=>?_|refine p8 (fun hb=>?_) fun hb=>?_|refine p9 (fun hb=>?_) fun hb=>?_|refine q7 (fun hb=>?_) fun hb=>?_|refine g7 (fun hb=>?_) fun hb=>?_|rw[i0 rfl])<;>try simp(maxSteps:=4000000) (disch:=first|assumption|omega) only[go_sem, *,h1,h2,hp,e2,List.length_append,↓c9,↓d9,Nat.reduceAdd,Nat.reduceSub,Nat.reduceMul,Nat.reduceBEq,Nat.reduceLeDiff,Nat.reduceLT,Nat.reduceDiv,Nat.reduceMod])
 |false=>
  cases l with
  |nil=>simp[E7]at hs
  |cons b t=>
   obtain⟨n1,n2⟩:=b2j hs
   rw[n1]at h1
   rw[n2]at h2
   have e2:((b::t)=[])=False:=by simp
   have hb:=hT k (by omega) (b::t) R0 (by omega) hR (by omega) h24
   simp only
   cases hm:G8 k (b::t)with
   |none=>
    rw[hm]at hb
    obtain⟨w,bs,e,hbs⟩:=hb
    refine⟨w,bs,?_,?_⟩
    ·clear hm hR hlen hk hT hs n1 n2
     rcases hbs with⟨l',rfl⟩|⟨l',R,z1,z2,rfl⟩
     ·cases R0
      all_goals
       simp only[hP]at h1 h2 e⊢
       refine y0 true (fun _=>L8.2) L8.1 Tryz.func89 rfl rfl fun c ht hr=>?_;simp only[m7,List.length_cons,List.length_nil,Nat.reduceAdd,e7,and_true]at c;(try simp(maxSteps:=4000000) (disch:=first|assumption|omega) only[go_sem, *,h1,h2,e2,e,i1,↓c9,↓d9,Nat.reduceAdd,Nat.reduceSub,Nat.reduceMul,Nat.reduceBEq,Nat.reduceLeDiff,Nat.reduceLT,Nat.reduceDiv,Nat.reduceMod]);repeat' ((first|with_reducible first|refine o8 (fun hb=>?_) fun hb=>?_|refine o9 (fun hb=>?_) fun hb=>?_|refine p8 (fun hb=>?_) fun hb=>?_|refine p9 (fun hb=>?_) fun hb=>?_|refine q7 (fun hb=>?_) fun hb=>?_|refine g7 (fun hb=>?_) fun hb=>?_|rw[i0 rfl])<;>try simp(maxSteps:=4000000) (disch:=first|assumption|omega) only[go_sem, *,h1,h2,e2,e,i1,↓c9,↓d9,Nat.reduceAdd,Nat.reduceSub,Nat.reduceMul,Nat.reduceBEq,Nat.reduceLeDiff,Nat.reduceLT,Nat.reduceDiv,Nat.reduceMod])
     ·cases R0
      all_goals
       simp only[hP,hQ]at h1 h2 e⊢
       refine y0 true (fun _=>L8.2) L8.1 Tryz.func89 rfl rfl fun c ht hr=>?_;simp only[m7,List.length_cons,List.length_nil,Nat.reduceAdd,e7,and_true]at c;(try simp(maxSteps:=4000000) (disch:=first|assumption|omega) only[go_sem, *,h1,h2,e2,e,i1,↓c9,↓d9,Nat.reduceAdd,Nat.reduceSub,Nat.reduceMul,Nat.reduceBEq,Nat.reduceLeDiff,Nat.reduceLT,Nat.reduceDiv,Nat.reduceMod]);repeat' ((first|with_reducible first|refine o8 (fun hb=>?_) fun hb=>?_|refine o9 (fun hb=>?_) fun hb=>?_|refine p8 (fun hb=>?_) fun hb=>?_|refine p9 (fun hb=>?_) fun hb=>?_|refine q7 (fun hb=>?_) fun hb=>?_|refine g7 (fun hb=>?_) fun hb=>?_|rw[i0 rfl])<;>try simp(maxSteps:=4000000) (disch:=first|assumption|omega) only[go_sem, *,h1,h2,e2,e,i1,↓c9,↓d9,Nat.reduceAdd,Nat.reduceSub,Nat.reduceMul,Nat.reduceBEq,Nat.reduceLeDiff,Nat.reduceLT,Nat.reduceDiv,Nat.reduceMod])
    ·rcases hbs with⟨l',h⟩|⟨l',R,z1,z2,h⟩
     ·exact .inl ⟨l',h⟩
     ·exact .inr ⟨l',R,z1,by omega,h⟩
   |some r=>
    rw[hm]at hb
    obtain⟨a,R,e,g1,g2,g3,g4⟩:=hb
    simp only
    cases R0 with
    |nil=>
     have ih:=c0i k (fun j hj=>hT j (by omega)) r a R (by omega) g1 g2 (by simp at g3 hlen;omega) (by omega)
     cases hml:O5 k r with
     |some rest=>
      rw[hml]at ih
      obtain⟨a',R',q1,q2,q3,q4,q5⟩:=ih
      refine⟨a',R',?_,q1,q2,by simp at g3⊢;omega,by simp at g4⊢;omega⟩
      clear q1 q2 q3 q4 g1 g2 g3 g4 hml hm hR hlen hk hT hs n1 n2
      simp only[hP,hQ]at h1 h2 e⊢
      exact fn L8 Tryz.func89
     |none=>
      rw[hml]at ih
      obtain⟨w,l',R',q1,q2,q5⟩:=ih
      refine⟨w,_,?_,.inr ⟨l',R',q1,by simp at g3⊢;omega,rfl⟩⟩
      clear q1 q2 g1 g2 g3 g4 hml hm hR hlen hk hT hs n1 n2
      simp only[hP,hQ]at h1 h2 e⊢
      exact fn L8 Tryz.func89
    |cons p ps=>
     have ih:=c0j k (fun j hj=>hT j (by omega)) r a R (by omega) g1 g2 (by simp at g3 hlen;omega) (by omega)
     cases hml:O5 k r with
     |some rest=>
      rw[hml]at ih
      obtain⟨a',R',q1,q2,q3,q4,q5⟩:=ih
      refine⟨a',R',?_,q1,q2,by simp at g3⊢;omega,by simp at g4⊢;omega⟩
      clear q1 q2 q3 q4 g1 g2 g3 g4 hml hm hR hlen hk hT hs n1 n2
      simp only[hP,hQ]at h1 h2 e⊢
      exact fn L8 Tryz.func89
     |none=>
      rw[hml]at ih
      obtain⟨w,l',R',q1,q2,q5⟩:=ih
      refine⟨w,_,?_,.inr ⟨l',R',q1,by simp at g3⊢;omega,rfl⟩⟩
      clear q1 q2 g1 g2 g3 g4 hml hm hR hlen hk hT hs n1 n2
      simp only[hP,hQ]at h1 h2 e⊢
      exact fn L8 Tryz.func89
theorem c0k: ∀(k:Nat),(∀j,j<k->PI 89 T4 1 5 j)-> ∀(l:List UInt8)(a:Nat)(R:List (List D)),6*l.length+1<=k->G9 R->a<R.length->R.length+2*l.length<=59->l.length<=24->
  match O4 k l with
  |some rest=> ∃(a':Nat)(R':List (List D)),G9 R'∧a'<R'.length∧(R.length<=R'.length∧R'.length+2*rest.length<=R.length+2*l.length)∧rest.length<=l.length∧
   g8 Tryz.prog T (c6 Tryz.prog T L0) 85 (cq Tryz.f85 [0,0,0,1,1]) ⟨[.one (.c (.ptr 0 0 0)),J,J,.one (.c (.d (.v (.int .i64 ((a:Int)))))),J,J,J,J,J,J,J,J,J,J,J,J,J,J,J,J,J,J,J,J],c7 [some (.var [.d (.v (.string (B (l)))),.arr 1 0 R.length,.d (.v (.bool (false)))]),some (.arr 3 R)],2,1⟩=some (.exit 0,⟨[J,J,J,.one (.c (.d (.v (.int .i64 ((a':Int)))))),J,J,J,J,J,J,J,J,J,J,J,J,J,J,J,J,J,J,J,J],c7 [some (.var [.d (.v (.string (B (rest)))),.arr 1 0 R'.length,.d (.v (.bool (false)))]),some (.arr 3 R')],2,1⟩)
  |none=> ∃(w:Int)(l':List UInt8)(R':List (List D)),1<=R'.length∧R'.length<=R.length+2*l.length+2∧
   g8 Tryz.prog T (c6 Tryz.prog T L0) 85 (cq Tryz.f85 [0,0,0,1,1]) ⟨[.one (.c (.ptr 0 0 0)),J,J,.one (.c (.d (.v (.int .i64 ((a:Int)))))),J,J,J,J,J,J,J,J,J,J,J,J,J,J,J,J,J,J,J,J],c7 [some (.var [.d (.v (.string (B (l)))),.arr 1 0 R.length,.d (.v (.bool (false)))]),some (.arr 3 R)],2,1⟩=some (.exit 0,⟨[J,J,J,.one (.c (.d (.v (.int .i64 (w))))),J,J,J,J,J,J,J,J,J,J,J,J,J,J,J,J,J,J,J,J],c7 [some (.var [.d (.v (.string (B (l')))),.arr 1 0 R'.length,.d (.v (.bool (true)))]),some (.arr 3 R')],2,1⟩)
 |0,_,l,a,R,hk,_,_,_,_=>by omega
 |k+1,hT,l,a,R,hk,hR,ha,hlen,h24=>by
  have h1:=I2 124 l false R (by omega)
  simp only[show((124:UInt8).toNat:Int)=124 from rfl]at h1
  simp only[O4]
  cases hs:nx 124 l with
  |false=>
   refine⟨a,R,hR,ha,by omega,by omega,?_⟩
   rw[hs]at h1
   simp only[F8]at h1
   clear hs hT hR
   exact lp T0
  |true=>
   have hd:=a4b hs
   rw[hs]at h1
   simp only[F8]at h1
   obtain⟨p,ps,rfl⟩: ∃p ps,R=p::ps:=by
    cases R with
    |nil=>simp at ha
    |cons p ps=>exact⟨p,ps,rfl⟩
   have hb:=hT k (by omega) (l.drop 1) (p::ps) (by omega) hR (by omega) (by omega)
   generalize l.drop 1=l1 at h1 hd hb⊢
   simp only
   cases hm:T4 k l1 with
   |none=>
    rw[hm]at hb
    obtain⟨w,bs,e,hbs⟩:=hb
    rcases hbs with⟨l',rfl⟩|⟨l',R',z1,z2,rfl⟩
    ·have hp:=B9 6 [] [(a:Int),w] (by simp) l' true (p::ps) (ps.length+1) rfl ⟨by omega,by simp at hlen;omega⟩
     refine⟨((ps.length+1:Nat):Int),l',(p::ps)++[row 6 [] [(a:Int),w]],by simp,by simp;omega,?_⟩
     clear hs hT hR hm hd
     simp only[rI,List.map_cons,List.map_nil,List.length_cons,List.length_nil,Nat.zero_add,Nat.reduceAdd,hP]at h1 hp e⊢
     refine D3 true (fun _=>T0.2) T0.1 rfl fun c hl=>?_;simp only[v8,C4,m7,List.length_cons,List.length_nil,Nat.reduceAdd,e7,and_true]at c hl;(try simp(maxSteps:=4000000) (disch:=first|assumption|omega) only[go_sem, *,h1,e,hp,i1,List.length_append,↓c9,↓d9,Nat.reduceAdd,Nat.reduceSub,Nat.reduceMul,Nat.reduceBEq,Nat.reduceLeDiff,Nat.reduceLT,Nat.reduceDiv,Nat.reduceMod]);repeat' ((first|with_reducible first|refine o8 (fun hb=>?_) fun hb=>?_|refine o9 (fun hb=>?_) fun hb=>?_|refine p8 (fun hb=>?_) fun hb=>?_|refine p9 (fun hb=>?_) fun hb=>?_|refine q7 (fun hb=>?_) fun hb=>?_|refine g7 (fun hb=>?_) fun hb=>?_|rw[i0 rfl])<;>try simp(maxSteps:=4000000) (disch:=first|assumption|omega) only[go_sem, *,h1,e,hp,i1,List.length_append,↓c9,↓d9,Nat.reduceAdd,Nat.reduceSub,Nat.reduceMul,Nat.reduceBEq,Nat.reduceLeDiff,Nat.reduceLT,Nat.reduceDiv,Nat.reduceMod])
    ·have hp:=B9 6 [] [(a:Int),w] (by simp) l' true R' R'.length rfl ⟨by omega,by omega⟩
     refine⟨((R'.length:Nat):Int),l',R'++[row 6 [] [(a:Int),w]],by simp,by simp at z2⊢;omega,?_⟩
     clear hs hT hR hm hd
     simp only[rI,List.map_cons,List.map_nil,List.length_cons,List.length_nil,Nat.zero_add,Nat.reduceAdd,hP,hQ]at h1 hp e⊢
     refine D3 true (fun _=>T0.2) T0.1 rfl fun c hl=>?_;simp only[v8,C4,m7,List.length_cons,List.length_nil,Nat.reduceAdd,e7,and_true]at c hl;(try simp(maxSteps:=4000000) (disch:=first|assumption|omega) only[go_sem, *,h1,e,hp,i1,List.length_append,↓c9,↓d9,Nat.reduceAdd,Nat.reduceSub,Nat.reduceMul,Nat.reduceBEq,Nat.reduceLeDiff,Nat.reduceLT,Nat.reduceDiv,Nat.reduceMod]);repeat' ((first|with_reducible first|refine o8 (fun hb=>?_) fun hb=>?_|refine o9 (fun hb=>?_) fun hb=>?_|refine p8 (fun hb=>?_) fun hb=>?_|refine p9 (fun hb=>?_) fun hb=>?_|refine q7 (fun hb=>?_) fun hb=>?_|refine g7 (fun hb=>?_) fun hb=>?_|rw[i0 rfl])<;>try simp(maxSteps:=4000000) (disch:=first|assumption|omega) only[go_sem, *,h1,e,hp,i1,List.length_append,↓c9,↓d9,Nat.reduceAdd,Nat.reduceSub,Nat.reduceMul,Nat.reduceBEq,Nat.reduceLeDiff,Nat.reduceLT,Nat.reduceDiv,Nat.reduceMod])
   |some r=>
    rw[hm]at hb
    obtain⟨a2,R2,e,g1,g2,g3,g4⟩:=hb
    have ih:=c0k k (fun j hj=>hT j (by omega)) r R2.length (R2++[row 6 [] [(a:Int),(a2:Int)]]) (by omega) (y9 g1 (b3e (.inr rfl) (by omega) g2)) (by simp) (by simp;omega) (by omega)
    have hp:=B9 6 [] [(a:Int),(a2:Int)] (by simp) r false R2 R2.length rfl ⟨by omega,by omega⟩
    clear hs hT hR hm
    simp only
    cases hml:O4 k r with
    |some rest=>
     rw[hml]at ih
     obtain⟨a',R',q1,q2,q3,q4,q5⟩:=ih
     refine⟨a',R',q1,q2,by simp at q3 g3⊢;omega,by omega,?_⟩
     clear q1 q2 q3 q4 g1 g2 g3 g4 hml hd
     simp only[rI,List.map_cons,List.map_nil,List.length_cons,List.length_nil,Nat.zero_add,Nat.reduceAdd,hP,hQ,List.length_append]at h1 hp e q5⊢
     rw[<-q5]
     clear q5
     refine D3 true (fun _=>T0.2) T0.1 rfl fun c hl=>?_;simp only[v8,C4,m7,List.length_cons,List.length_nil,Nat.reduceAdd,e7,and_true]at c hl;(try simp(maxSteps:=4000000) (disch:=first|assumption|omega) only[go_sem, *,h1,e,hp,List.length_append,↓c9,↓d9,Nat.reduceAdd,Nat.reduceSub,Nat.reduceMul,Nat.reduceBEq,Nat.reduceLeDiff,Nat.reduceLT,Nat.reduceDiv,Nat.reduceMod]);repeat' ((first|with_reducible first|refine o8 (fun hb=>?_) fun hb=>?_|refine o9 (fun hb=>?_) fun hb=>?_|refine p8 (fun hb=>?_) fun hb=>?_|refine p9 (fun hb=>?_) fun hb=>?_|refine q7 (fun hb=>?_) fun hb=>?_|refine g7 (fun hb=>?_) fun hb=>?_|rw[i0 rfl])<;>try simp(maxSteps:=4000000) (disch:=first|assumption|omega) only[go_sem, *,h1,e,hp,List.length_append,↓c9,↓d9,Nat.reduceAdd,Nat.reduceSub,Nat.reduceMul,Nat.reduceBEq,Nat.reduceLeDiff,Nat.reduceLT,Nat.reduceDiv,Nat.reduceMod])
    |none=>
     rw[hml]at ih
     obtain⟨w,l',R',q1,q2,q5⟩:=ih
     refine⟨w,l',R',q1,by simp at q2 g3⊢;omega,?_⟩
     clear q1 q2 g1 g2 g3 g4 hml hd
     simp only[rI,List.map_cons,List.map_nil,List.length_cons,List.length_nil,Nat.zero_add,Nat.reduceAdd,hP,hQ,List.length_append]at h1 hp e q5⊢
     rw[<-q5]
     clear q5
     refine D3 true (fun _=>T0.2) T0.1 rfl fun c hl=>?_;simp only[v8,C4,m7,List.length_cons,List.length_nil,Nat.reduceAdd,e7,and_true]at c hl;(try simp(maxSteps:=4000000) (disch:=first|assumption|omega) only[go_sem, *,h1,e,hp,List.length_append,↓c9,↓d9,Nat.reduceAdd,Nat.reduceSub,Nat.reduceMul,Nat.reduceBEq,Nat.reduceLeDiff,Nat.reduceLT,Nat.reduceDiv,Nat.reduceMod]);repeat' ((first|with_reducible first|refine o8 (fun hb=>?_) fun hb=>?_|refine o9 (fun hb=>?_) fun hb=>?_|refine p8 (fun hb=>?_) fun hb=>?_|refine p9 (fun hb=>?_) fun hb=>?_|refine q7 (fun hb=>?_) fun hb=>?_|refine g7 (fun hb=>?_) fun hb=>?_|rw[i0 rfl])<;>try simp(maxSteps:=4000000) (disch:=first|assumption|omega) only[go_sem, *,h1,e,hp,List.length_append,↓c9,↓d9,Nat.reduceAdd,Nat.reduceSub,Nat.reduceMul,Nat.reduceBEq,Nat.reduceLeDiff,Nat.reduceLT,Nat.reduceDiv,Nat.reduceMod])
theorem c0l: ∀(k:Nat),(∀j,j<k->PI 89 T4 1 5 j)-> ∀(l:List UInt8)(a:Nat)(R:List (List D)),6*l.length+1<=k->G9 R->a<R.length->R.length+2*l.length<=59->l.length<=24->
  match O4 k l with
  |some rest=> ∃(a':Nat)(R':List (List D)),G9 R'∧a'<R'.length∧(R.length<=R'.length∧R'.length+2*rest.length<=R.length+2*l.length)∧rest.length<=l.length∧
   g8 Tryz.prog T (c6 Tryz.prog T L0) 85 (cq Tryz.f85 [0,0,0,1,1]) ⟨[.one (.c (.ptr 0 0 0)),J,J,.one (.c (.d (.v (.int .i64 ((a:Int)))))),J,J,J,J,J,J,J,J,J,J,J,J,J,J,J,J,J,J,J,J],c7 [some (.var [.d (.v (.string (B (l)))),.arr 2 0 R.length,.d (.v (.bool (false)))]),none,some (.arr 3 R)],3,2⟩=some (.exit 0,⟨[J,J,J,.one (.c (.d (.v (.int .i64 ((a':Int)))))),J,J,J,J,J,J,J,J,J,J,J,J,J,J,J,J,J,J,J,J],c7 [some (.var [.d (.v (.string (B (rest)))),.arr 2 0 R'.length,.d (.v (.bool (false)))]),none,some (.arr 3 R')],3,2⟩)
  |none=> ∃(w:Int)(l':List UInt8)(R':List (List D)),1<=R'.length∧R'.length<=R.length+2*l.length+2∧
   g8 Tryz.prog T (c6 Tryz.prog T L0) 85 (cq Tryz.f85 [0,0,0,1,1]) ⟨[.one (.c (.ptr 0 0 0)),J,J,.one (.c (.d (.v (.int .i64 ((a:Int)))))),J,J,J,J,J,J,J,J,J,J,J,J,J,J,J,J,J,J,J,J],c7 [some (.var [.d (.v (.string (B (l)))),.arr 2 0 R.length,.d (.v (.bool (false)))]),none,some (.arr 3 R)],3,2⟩=some (.exit 0,⟨[J,J,J,.one (.c (.d (.v (.int .i64 (w))))),J,J,J,J,J,J,J,J,J,J,J,J,J,J,J,J,J,J,J,J],c7 [some (.var [.d (.v (.string (B (l')))),.arr 2 0 R'.length,.d (.v (.bool (true)))]),none,some (.arr 3 R')],3,2⟩)
 |0,_,l,a,R,hk,_,_,_,_=>by omega
 |k+1,hT,l,a,R,hk,hR,ha,hlen,h24=>by
  have h1:=I2 124 l false R (by omega)
  simp only[show((124:UInt8).toNat:Int)=124 from rfl]at h1
  simp only[O4]
  cases hs:nx 124 l with
  |false=>
   refine⟨a,R,hR,ha,by omega,by omega,?_⟩
   rw[hs]at h1
   simp only[F8]at h1
   clear hs hT hR
   exact lp T0
  |true=>
   have hd:=a4b hs
   rw[hs]at h1
   simp only[F8]at h1
   obtain⟨p,ps,rfl⟩: ∃p ps,R=p::ps:=by
    cases R with
    |nil=>simp at ha
    |cons p ps=>exact⟨p,ps,rfl⟩
   have hb:=hT k (by omega) (l.drop 1) (p::ps) (by omega) hR (by omega) (by omega)
   generalize l.drop 1=l1 at h1 hd hb⊢
   simp only
   cases hm:T4 k l1 with
   |none=>
    rw[hm]at hb
    obtain⟨w,bs,e,hbs⟩:=hb
    rcases hbs with⟨l',rfl⟩|⟨l',R',z1,z2,rfl⟩
    ·have hp:=B9 6 [] [(a:Int),w] (by simp) l' true (p::ps) (ps.length+1) rfl ⟨by omega,by simp at hlen;omega⟩
     refine⟨((ps.length+1:Nat):Int),l',(p::ps)++[row 6 [] [(a:Int),w]],by simp,by simp;omega,?_⟩
     clear hs hT hR hm hd
     simp only[rI,List.map_cons,List.map_nil,List.length_cons,List.length_nil,Nat.zero_add,Nat.reduceAdd,hP]at h1 hp e⊢
     refine D3 true (fun _=>T0.2) T0.1 rfl fun c hl=>?_;simp only[v8,C4,m7,List.length_cons,List.length_nil,Nat.reduceAdd,e7,and_true]at c hl;(try simp(maxSteps:=4000000) (disch:=first|assumption|omega) only[go_sem, *,h1,e,hp,i1,List.length_append,↓c9,↓d9,Nat.reduceAdd,Nat.reduceSub,Nat.reduceMul,Nat.reduceBEq,Nat.reduceLeDiff,Nat.reduceLT,Nat.reduceDiv,Nat.reduceMod]);repeat' ((first|with_reducible first|refine o8 (fun hb=>?_) fun hb=>?_|refine o9 (fun hb=>?_) fun hb=>?_|refine p8 (fun hb=>?_) fun hb=>?_|refine p9 (fun hb=>?_) fun hb=>?_|refine q7 (fun hb=>?_) fun hb=>?_|refine g7 (fun hb=>?_) fun hb=>?_|rw[i0 rfl])<;>try simp(maxSteps:=4000000) (disch:=first|assumption|omega) only[go_sem, *,h1,e,hp,i1,List.length_append,↓c9,↓d9,Nat.reduceAdd,Nat.reduceSub,Nat.reduceMul,Nat.reduceBEq,Nat.reduceLeDiff,Nat.reduceLT,Nat.reduceDiv,Nat.reduceMod])
    ·have hp:=B9 6 [] [(a:Int),w] (by simp) l' true R' R'.length rfl ⟨by omega,by omega⟩
     refine⟨((R'.length:Nat):Int),l',R'++[row 6 [] [(a:Int),w]],by simp,by simp at z2⊢;omega,?_⟩
     clear hs hT hR hm hd
     simp only[rI,List.map_cons,List.map_nil,List.length_cons,List.length_nil,Nat.zero_add,Nat.reduceAdd,hP,hQ]at h1 hp e⊢
     refine D3 true (fun _=>T0.2) T0.1 rfl fun c hl=>?_;simp only[v8,C4,m7,List.length_cons,List.length_nil,Nat.reduceAdd,e7,and_true]at c hl;(try simp(maxSteps:=4000000) (disch:=first|assumption|omega) only[go_sem, *,h1,e,hp,i1,List.length_append,↓c9,↓d9,Nat.reduceAdd,Nat.reduceSub,Nat.reduceMul,Nat.reduceBEq,Nat.reduceLeDiff,Nat.reduceLT,Nat.reduceDiv,Nat.reduceMod]);repeat' ((first|with_reducible first|refine o8 (fun hb=>?_) fun hb=>?_|refine o9 (fun hb=>?_) fun hb=>?_|refine p8 (fun hb=>?_) fun hb=>?_|refine p9 (fun hb=>?_) fun hb=>?_|refine q7 (fun hb=>?_) fun hb=>?_|refine g7 (fun hb=>?_) fun hb=>?_|rw[i0 rfl])<;>try simp(maxSteps:=4000000) (disch:=first|assumption|omega) only[go_sem, *,h1,e,hp,i1,List.length_append,↓c9,↓d9,Nat.reduceAdd,Nat.reduceSub,Nat.reduceMul,Nat.reduceBEq,Nat.reduceLeDiff,Nat.reduceLT,Nat.reduceDiv,Nat.reduceMod])
   |some r=>
    rw[hm]at hb
    obtain⟨a2,R2,e,g1,g2,g3,g4⟩:=hb
    have ih:=c0l k (fun j hj=>hT j (by omega)) r R2.length (R2++[row 6 [] [(a:Int),(a2:Int)]]) (by omega) (y9 g1 (b3e (.inr rfl) (by omega) g2)) (by simp) (by simp;omega) (by omega)
    have hp:=B9 6 [] [(a:Int),(a2:Int)] (by simp) r false R2 R2.length rfl ⟨by omega,by omega⟩
    clear hs hT hR hm
    simp only
    cases hml:O4 k r with
    |some rest=>
     rw[hml]at ih
     obtain⟨a',R',q1,q2,q3,q4,q5⟩:=ih
     refine⟨a',R',q1,q2,by simp at q3 g3⊢;omega,by omega,?_⟩
     clear q1 q2 q3 q4 g1 g2 g3 g4 hml hd
     simp only[rI,List.map_cons,List.map_nil,List.length_cons,List.length_nil,Nat.zero_add,Nat.reduceAdd,hP,hQ,List.length_append]at h1 hp e q5⊢
     rw[<-q5]
     clear q5
     refine D3 true (fun _=>T0.2) T0.1 rfl fun c hl=>?_;simp only[v8,C4,m7,List.length_cons,List.length_nil,Nat.reduceAdd,e7,and_true]at c hl;(try simp(maxSteps:=4000000) (disch:=first|assumption|omega) only[go_sem, *,h1,e,hp,List.length_append,↓c9,↓d9,Nat.reduceAdd,Nat.reduceSub,Nat.reduceMul,Nat.reduceBEq,Nat.reduceLeDiff,Nat.reduceLT,Nat.reduceDiv,Nat.reduceMod]);repeat' ((first|with_reducible first|refine o8 (fun hb=>?_) fun hb=>?_|refine o9 (fun hb=>?_) fun hb=>?_|refine p8 (fun hb=>?_) fun hb=>?_|refine p9 (fun hb=>?_) fun hb=>?_|refine q7 (fun hb=>?_) fun hb=>?_|refine g7 (fun hb=>?_) fun hb=>?_|rw[i0 rfl])<;>try simp(maxSteps:=4000000) (disch:=first|assumption|omega) only[go_sem, *,h1,e,hp,List.length_append,↓c9,↓d9,Nat.reduceAdd,Nat.reduceSub,Nat.reduceMul,Nat.reduceBEq,Nat.reduceLeDiff,Nat.reduceLT,Nat.reduceDiv,Nat.reduceMod])
    |none=>
     rw[hml]at ih
     obtain⟨w,l',R',q1,q2,q5⟩:=ih
     refine⟨w,l',R',q1,by simp at q2 g3⊢;omega,?_⟩
     clear q1 q2 g1 g2 g3 g4 hml hd
     simp only[rI,List.map_cons,List.map_nil,List.length_cons,List.length_nil,Nat.zero_add,Nat.reduceAdd,hP,hQ,List.length_append]at h1 hp e q5⊢
     rw[<-q5]
     clear q5
     refine D3 true (fun _=>T0.2) T0.1 rfl fun c hl=>?_;simp only[v8,C4,m7,List.length_cons,List.length_nil,Nat.reduceAdd,e7,and_true]at c hl;(try simp(maxSteps:=4000000) (disch:=first|assumption|omega) only[go_sem, *,h1,e,hp,List.length_append,↓c9,↓d9,Nat.reduceAdd,Nat.reduceSub,Nat.reduceMul,Nat.reduceBEq,Nat.reduceLeDiff,Nat.reduceLT,Nat.reduceDiv,Nat.reduceMod]);repeat' ((first|with_reducible first|refine o8 (fun hb=>?_) fun hb=>?_|refine o9 (fun hb=>?_) fun hb=>?_|refine p8 (fun hb=>?_) fun hb=>?_|refine p9 (fun hb=>?_) fun hb=>?_|refine q7 (fun hb=>?_) fun hb=>?_|refine g7 (fun hb=>?_) fun hb=>?_|rw[i0 rfl])<;>try simp(maxSteps:=4000000) (disch:=first|assumption|omega) only[go_sem, *,h1,e,hp,List.length_append,↓c9,↓d9,Nat.reduceAdd,Nat.reduceSub,Nat.reduceMul,Nat.reduceBEq,Nat.reduceLeDiff,Nat.reduceLT,Nat.reduceDiv,Nat.reduceMod])
theorem e9e(k:Nat)(hT: ∀j,j<k+1->PI 89 T4 1 5 j):PI 85 F9 1 6 (k+1):=by
 intro l R0 hk hR hlen h24
 have hb:=hT k (by omega) l R0 (by omega) hR hlen h24
 simp only[F9]
 cases hm:T4 k l with
 |none=>
  rw[hm]at hb
  obtain⟨w,bs,e,hbs⟩:=hb
  refine⟨w,bs,?_,hbs⟩
  clear hm hR hlen hk hT
  rcases hbs with⟨l',rfl⟩|⟨l',R,z1,z2,rfl⟩
  ·cases R0
   all_goals
    simp only[hP]at e⊢
    refine y0 true (fun _=>T0.2) T0.1 Tryz.func85 rfl rfl fun c ht hr=>?_;simp only[m7,List.length_cons,List.length_nil,Nat.reduceAdd,e7,and_true]at c;(try simp(maxSteps:=4000000) (disch:=first|assumption|omega) only[go_sem, *,e,i1,↓c9,↓d9,Nat.reduceAdd,Nat.reduceSub,Nat.reduceMul,Nat.reduceBEq,Nat.reduceLeDiff,Nat.reduceLT,Nat.reduceDiv,Nat.reduceMod]);repeat' ((first|with_reducible first|refine o8 (fun hb=>?_) fun hb=>?_|refine o9 (fun hb=>?_) fun hb=>?_|refine p8 (fun hb=>?_) fun hb=>?_|refine p9 (fun hb=>?_) fun hb=>?_|refine q7 (fun hb=>?_) fun hb=>?_|refine g7 (fun hb=>?_) fun hb=>?_|rw[i0 rfl])<;>try simp(maxSteps:=4000000) (disch:=first|assumption|omega) only[go_sem, *,e,i1,↓c9,↓d9,Nat.reduceAdd,Nat.reduceSub,Nat.reduceMul,Nat.reduceBEq,Nat.reduceLeDiff,Nat.reduceLT,Nat.reduceDiv,Nat.reduceMod])
  ·cases R0
   all_goals
    simp only[hP,hQ]at e⊢
    refine y0 true (fun _=>T0.2) T0.1 Tryz.func85 rfl rfl fun c ht hr=>?_;simp only[m7,List.length_cons,List.length_nil,Nat.reduceAdd,e7,and_true]at c;(try simp(maxSteps:=4000000) (disch:=first|assumption|omega) only[go_sem, *,e,i1,↓c9,↓d9,Nat.reduceAdd,Nat.reduceSub,Nat.reduceMul,Nat.reduceBEq,Nat.reduceLeDiff,Nat.reduceLT,Nat.reduceDiv,Nat.reduceMod]);repeat' ((first|with_reducible first|refine o8 (fun hb=>?_) fun hb=>?_|refine o9 (fun hb=>?_) fun hb=>?_|refine p8 (fun hb=>?_) fun hb=>?_|refine p9 (fun hb=>?_) fun hb=>?_|refine q7 (fun hb=>?_) fun hb=>?_|refine g7 (fun hb=>?_) fun hb=>?_|rw[i0 rfl])<;>try simp(maxSteps:=4000000) (disch:=first|assumption|omega) only[go_sem, *,e,i1,↓c9,↓d9,Nat.reduceAdd,Nat.reduceSub,Nat.reduceMul,Nat.reduceBEq,Nat.reduceLeDiff,Nat.reduceLT,Nat.reduceDiv,Nat.reduceMod])
 |some r=>
  rw[hm]at hb
  obtain⟨a,R,e,g1,g2,g3,g4⟩:=hb
  simp only
  cases R0 with
  |nil=>
   have ih:=c0k k (fun j hj=>hT j (by omega)) r a R (by omega) g1 g2 (by simp at g3 hlen;omega) (by omega)
   cases hml:O4 k r with
   |some rest=>
    rw[hml]at ih
    obtain⟨a',R',q1,q2,q3,q4,q5⟩:=ih
    refine⟨a',R',?_,q1,q2,by simp at g3⊢;omega,by simp at g4⊢;omega⟩
    clear q1 q2 q3 q4 g1 g2 g3 g4 hml hm hR hlen hk hT
    simp only[hP,hQ]at e⊢
    exact fn T0 Tryz.func85
   |none=>
    rw[hml]at ih
    obtain⟨w,l',R',q1,q2,q5⟩:=ih
    refine⟨w,_,?_,.inr ⟨l',R',q1,by simp at g3⊢;omega,rfl⟩⟩
    clear q1 q2 g1 g2 g3 g4 hml hm hR hlen hk hT
    simp only[hP,hQ]at e⊢
    exact fn T0 Tryz.func85
  |cons p ps=>
   have ih:=c0l k (fun j hj=>hT j (by omega)) r a R (by omega) g1 g2 (by simp at g3 hlen;omega) (by omega)
   cases hml:O4 k r with
   |some rest=>
    rw[hml]at ih
    obtain⟨a',R',q1,q2,q3,q4,q5⟩:=ih
    refine⟨a',R',?_,q1,q2,by simp at g3⊢;omega,by simp at g4⊢;omega⟩
    clear q1 q2 q3 q4 g1 g2 g3 g4 hml hm hR hlen hk hT
    simp only[hP,hQ]at e⊢
    exact fn T0 Tryz.func85
   |none=>
    rw[hml]at ih
    obtain⟨w,l',R',q1,q2,q5⟩:=ih
    refine⟨w,_,?_,.inr ⟨l',R',q1,by simp at g3⊢;omega,rfl⟩⟩
    clear q1 q2 g1 g2 g3 g4 hml hm hR hlen hk hT
    simp only[hP,hQ]at e⊢
    exact fn T0 Tryz.func85
theorem e9f: ∀(k:Nat),PI 85 F9 1 6 k∧PI 89 T4 1 5 k∧PI 97 G8 0 4 k∧PI 101 y7 0 3 k:=by
 intro k
 induction k using Nat.strongRecOn with
 |ind k ih=>
  cases k with
  |zero=>exact⟨fun l R0 hk=>by omega,fun l R0 hk=>by omega,fun l R0 hk=>by omega,fun l R0 hk=>by omega⟩
  |succ k=>
   exact⟨e9e k (fun j hj=>(ih j hj).2.1),e9d k (fun j hj=>(ih j hj).2.2.1),d9e k (ih k (by omega)).2.2.2,e3o k (ih k (by omega)).1⟩
end
end Go.Vsi
