/- What the functions of the program, of the reference and of the law do (a part of it). -/
import Derived.Test.YtbjkeppbogdgcaaGreatZX7
namespace Go.Vsi
open Go.Proofs
noncomputable section
set_option maxRecDepth 100000
set_option maxHeartbeats 4000000
set_option linter.unusedSimpArgs false
set_option linter.unusedVariables false
attribute [local go_sem ↓] v6
theorem b2j{b:UInt8}{l:List UInt8}(h:E7 (b::l)=false):nx 124 (b::l)=false∧nx 41 (b::l)=false:=by
 simpa [E7]using h
theorem b3e{R:List (List D)}{op:Int}{a b:Nat}(h:op=5∨op=6)(ha:a<R.length)(hb:b<R.length):pOK op [] [(a:Int),(b:Int)] R.length=true:=by
 rcases h with rfl|rfl<;>simp[pOK,J3,x8]<;>omega
theorem c0i: ∀(k:Nat),(∀j,j<k->PI 97 G8 0 4 j)-> ∀(l:List UInt8)(a:Nat)(R:List (List D)),6*l.length+5<=k->G9 R->a<R.length->R.length+2*l.length<=59->l.length<=24->
  match O5 k l with
  |some rest=> ∃(a':Nat)(R':List (List D)),G9 R'∧a'<R'.length∧(R.length<=R'.length∧R'.length+2*rest.length<=R.length+2*l.length)∧rest.length<=l.length∧
   g8 Tryz.prog T (c6 Tryz.prog T L0) 89 (cq Tryz.f89 [0,0,0,1,1,1]) ⟨[.one (.c (.ptr 0 0 0)),J,J,.one (.c (.d (.v (.int .i64 ((a:Int)))))),J,J,J,J,J,J,J,J,J,J,J,J,J,J,J,J,J,J,J,J,J,J,J,J,J,J,J,J,J,J,J,J,J,J,J,J,J,J,J,J,J,J,J,J,J,J,J,J],c7 [some (.var [.d (.v (.string (B (l)))),.arr 1 0 R.length,.d (.v (.bool (false)))]),some (.arr 3 R)],2,1⟩=some (.exit 0,⟨[J,J,J,.one (.c (.d (.v (.int .i64 ((a':Int)))))),J,J,J,J,J,J,J,J,J,J,J,J,J,J,J,J,J,J,J,J,J,J,J,J,J,J,J,J,J,J,J,J,J,J,J,J,J,J,J,J,J,J,J,J,J,J,J,J],c7 [some (.var [.d (.v (.string (B (rest)))),.arr 1 0 R'.length,.d (.v (.bool (false)))]),some (.arr 3 R')],2,1⟩)
  |none=> ∃(w:Int)(l':List UInt8)(R':List (List D)),1<=R'.length∧R'.length<=R.length+2*l.length+2∧
   g8 Tryz.prog T (c6 Tryz.prog T L0) 89 (cq Tryz.f89 [0,0,0,1,1,1]) ⟨[.one (.c (.ptr 0 0 0)),J,J,.one (.c (.d (.v (.int .i64 ((a:Int)))))),J,J,J,J,J,J,J,J,J,J,J,J,J,J,J,J,J,J,J,J,J,J,J,J,J,J,J,J,J,J,J,J,J,J,J,J,J,J,J,J,J,J,J,J,J,J,J,J],c7 [some (.var [.d (.v (.string (B (l)))),.arr 1 0 R.length,.d (.v (.bool (false)))]),some (.arr 3 R)],2,1⟩=some (.exit 0,⟨[J,J,J,.one (.c (.d (.v (.int .i64 (w))))),J,J,J,J,J,J,J,J,J,J,J,J,J,J,J,J,J,J,J,J,J,J,J,J,J,J,J,J,J,J,J,J,J,J,J,J,J,J,J,J,J,J,J,J,J,J,J,J],c7 [some (.var [.d (.v (.string (B (l')))),.arr 1 0 R'.length,.d (.v (.bool (true)))]),some (.arr 3 R')],2,1⟩)
 |0,_,l,a,R,hk,_,_,_,_=>by omega
 |k+1,hT,l,a,R,hk,hR,ha,hlen,h24=>by
  simp only[O5]
  cases hs:E7 l with
  |true=>
   refine⟨a,R,hR,ha,by omega,by omega,?_⟩
   have h1:=a8n 124 l false R (by omega)
   have h2:=a8n 41 l false R (by omega)
   simp only[show((124:UInt8).toNat:Int)=124 from rfl,show((41:UInt8).toNat:Int)=41 from rfl]at h1 h2
   cases l with
   |nil=>
    clear hs hT hR
    exact lp L8
   |cons b t=>
    have e2:((b::t)=[])=False:=by simp
    have hs2:nx 124 (b::t)=true∨(nx 124 (b::t)=false∧nx 41 (b::t)=true):=by
     cases hx:nx 124 (b::t)with
     |true=>exact .inl rfl
     |false=>exact .inr ⟨rfl,by simpa [E7,hx]using hs⟩
    generalize nx 124 (b::t)=n1 at h1 hs2
    generalize nx 41 (b::t)=n2 at h2 hs2
    clear hs hT hR
    rcases hs2 with rfl|⟨rfl,rfl⟩
    all_goals
     exact lp L8
  |false=>
   cases l with
   |nil=>simp[E7]at hs
   |cons b t=>
    obtain⟨n1,n2⟩:=b2j hs
    have h1:=a8n 124 (b::t) false R (by omega)
    have h2:=a8n 41 (b::t) false R (by omega)
    simp only[show((124:UInt8).toNat:Int)=124 from rfl,show((41:UInt8).toNat:Int)=41 from rfl]at h1 h2
    rw[n1]at h1
    rw[n2]at h2
    have e2:((b::t)=[])=False:=by simp
    have hb:=hT k (by omega) (b::t) R (by omega) hR (by omega) h24
    obtain⟨p,ps,rfl⟩: ∃p ps,R=p::ps:=by
     cases R with
     |nil=>simp at ha
     |cons p ps=>exact⟨p,ps,rfl⟩
    simp only
    cases hm:G8 k (b::t)with
    |none=>
     rw[hm]at hb
     obtain⟨w,bs,e,hbs⟩:=hb
     rcases hbs with⟨l',rfl⟩|⟨l',R',z1,z2,rfl⟩
     ·have hp:=B9 5 [] [(a:Int),w] (by simp) l' true (p::ps) (ps.length+1) rfl ⟨by omega,by simp at hlen;omega⟩
      refine⟨((ps.length+1:Nat):Int),l',(p::ps)++[row 5 [] [(a:Int),w]],by simp,by simp;omega,?_⟩
      clear hs hT hR n1 n2 hm
      simp only[rI,List.map_cons,List.map_nil,List.length_cons,List.length_nil,Nat.zero_add,Nat.reduceAdd,hP]at h1 h2 hp e⊢
      refine D3 true (fun _=>L8.2) L8.1 rfl fun c hl=>?_;simp only[v8,C4,m7,List.length_cons,List.length_nil,Nat.reduceAdd,e7,and_true]at c hl;(try simp(maxSteps:=4000000) (disch:=first|assumption|omega) only[go_sem, *,h1,h2,e2,e,hp,i1,List.length_append,↓c9,↓d9,Nat.reduceAdd,Nat.reduceSub,Nat.reduceMul,Nat.reduceBEq,Nat.reduceLeDiff,Nat.reduceLT,Nat.reduceDiv,Nat.reduceMod]);repeat' ((first|with_reducible first|refine o8 (fun hb=>?_) fun hb=>?_|refine o9 (fun hb=>?_) fun hb=>?_|refine p8 (fun hb=>?_) fun hb=>?_|refine p9 (fun hb=>?_) fun hb=>?_|refine q7 (fun hb=>?_) fun hb=>?_|refine g7 (fun hb=>?_) fun hb=>?_|rw[i0 rfl])<;>try simp(maxSteps:=4000000) (disch:=first|assumption|omega) only[go_sem, *,h1,h2,e2,e,hp,i1,List.length_append,↓c9,↓d9,Nat.reduceAdd,Nat.reduceSub,Nat.reduceMul,Nat.reduceBEq,Nat.reduceLeDiff,Nat.reduceLT,Nat.reduceDiv,Nat.reduceMod])
     ·have hp:=B9 5 [] [(a:Int),w] (by simp) l' true R' R'.length rfl ⟨by omega,by omega⟩
      refine⟨((R'.length:Nat):Int),l',R'++[row 5 [] [(a:Int),w]],by simp,by simp at z2⊢;omega,?_⟩
      clear hs hT hR n1 n2 hm
      simp only[rI,List.map_cons,List.map_nil,List.length_cons,List.length_nil,Nat.zero_add,Nat.reduceAdd,hP,hQ]at h1 h2 hp e⊢
      refine D3 true (fun _=>L8.2) L8.1 rfl fun c hl=>?_;simp only[v8,C4,m7,List.length_cons,List.length_nil,Nat.reduceAdd,e7,and_true]at c hl;(try simp(maxSteps:=4000000) (disch:=first|assumption|omega) only[go_sem, *,h1,h2,e2,e,hp,i1,List.length_append,↓c9,↓d9,Nat.reduceAdd,Nat.reduceSub,Nat.reduceMul,Nat.reduceBEq,Nat.reduceLeDiff,Nat.reduceLT,Nat.reduceDiv,Nat.reduceMod]);repeat' ((first|with_reducible first|refine o8 (fun hb=>?_) fun hb=>?_|refine o9 (fun hb=>?_) fun hb=>?_|refine p8 (fun hb=>?_) fun hb=>?_|refine p9 (fun hb=>?_) fun hb=>?_|refine q7 (fun hb=>?_) fun hb=>?_|refine g7 (fun hb=>?_) fun hb=>?_|rw[i0 rfl])<;>try simp(maxSteps:=4000000) (disch:=first|assumption|omega) only[go_sem, *,h1,h2,e2,e,hp,i1,List.length_append,↓c9,↓d9,Nat.reduceAdd,Nat.reduceSub,Nat.reduceMul,Nat.reduceBEq,Nat.reduceLeDiff,Nat.reduceLT,Nat.reduceDiv,Nat.reduceMod])
    |some r=>
     rw[hm]at hb
     obtain⟨a2,R2,e,g1,g2,g3,g4⟩:=hb
     have ih:=c0i k (fun j hj=>hT j (by omega)) r R2.length (R2++[row 5 [] [(a:Int),(a2:Int)]]) (by omega) (y9 g1 (b3e (.inl rfl) (by omega) g2)) (by simp) (by simp;omega) (by omega)
     have hp:=B9 5 [] [(a:Int),(a2:Int)] (by simp) r false R2 R2.length rfl ⟨by omega,by omega⟩
     clear hs hT hR n1 n2 hm
     simp only
     cases hml:O5 k r with
     |some rest=>
      rw[hml]at ih
      obtain⟨a',R',q1,q2,q3,q4,q5⟩:=ih
      refine⟨a',R',q1,q2,by simp at q3 g3⊢;omega,by omega,?_⟩
      clear q1 q2 q3 q4 g1 g2 g3 g4 hml
      simp only[rI,List.map_cons,List.map_nil,List.length_cons,List.length_nil,Nat.zero_add,Nat.reduceAdd,hP,hQ,List.length_append]at h1 h2 hp e q5⊢
      rw[<-q5]
      clear q5
      refine D3 true (fun _=>L8.2) L8.1 rfl fun c hl=>?_;simp only[v8,C4,m7,List.length_cons,List.length_nil,Nat.reduceAdd,e7,and_true]at c hl;(try simp(maxSteps:=4000000) (disch:=first|assumption|omega) only[go_sem, *,h1,h2,e2,e,hp,List.length_append,↓c9,↓d9,Nat.reduceAdd,Nat.reduceSub,Nat.reduceMul,Nat.reduceBEq,Nat.reduceLeDiff,Nat.reduceLT,Nat.reduceDiv,Nat.reduceMod]);repeat' ((first|with_reducible first|refine o8 (fun hb=>?_) fun hb=>?_|refine o9 (fun hb=>?_) fun hb=>?_|refine p8 (fun hb=>?_) fun hb=>?_|refine p9 (fun hb=>?_) fun hb=>?_|refine q7 (fun hb=>?_) fun hb=>?_|refine g7 (fun hb=>?_) fun hb=>?_|rw[i0 rfl])<;>try simp(maxSteps:=4000000) (disch:=first|assumption|omega) only[go_sem, *,h1,h2,e2,e,hp,List.length_append,↓c9,↓d9,Nat.reduceAdd,Nat.reduceSub,Nat.reduceMul,Nat.reduceBEq,Nat.reduceLeDiff,Nat.reduceLT,Nat.reduceDiv,Nat.reduceMod])
     |none=>
      rw[hml]at ih
      obtain⟨w,l',R',q1,q2,q5⟩:=ih
      refine⟨w,l',R',q1,by simp at q2 g3⊢;omega,?_⟩
      clear q1 q2 g1 g2 g3 g4 hml
      simp only[rI,List.map_cons,List.map_nil,List.length_cons,List.length_nil,Nat.zero_add,Nat.reduceAdd,hP,hQ,List.length_append]at h1 h2 hp e q5⊢
      rw[<-q5]
      clear q5
      refine D3 true (fun _=>L8.2) L8.1 rfl fun c hl=>?_;simp only[v8,C4,m7,List.length_cons,List.length_nil,Nat.reduceAdd,e7,and_true]at c hl;(try simp(maxSteps:=4000000) (disch:=first|assumption|omega) only[go_sem, *,h1,h2,e2,e,hp,List.length_append,↓c9,↓d9,Nat.reduceAdd,Nat.reduceSub,Nat.reduceMul,Nat.reduceBEq,Nat.reduceLeDiff,Nat.reduceLT,Nat.reduceDiv,Nat.reduceMod]);repeat' ((first|with_reducible first|refine o8 (fun hb=>?_) fun hb=>?_|refine o9 (fun hb=>?_) fun hb=>?_|refine p8 (fun hb=>?_) fun hb=>?_|refine p9 (fun hb=>?_) fun hb=>?_|refine q7 (fun hb=>?_) fun hb=>?_|refine g7 (fun hb=>?_) fun hb=>?_|rw[i0 rfl])<;>try simp(maxSteps:=4000000) (disch:=first|assumption|omega) only[go_sem, *,h1,h2,e2,e,hp,List.length_append,↓c9,↓d9,Nat.reduceAdd,Nat.reduceSub,Nat.reduceMul,Nat.reduceBEq,Nat.reduceLeDiff,Nat.reduceLT,Nat.reduceDiv,Nat.reduceMod])
theorem c0j: ∀(k:Nat),(∀j,j<k->PI 97 G8 0 4 j)-> ∀(l:List UInt8)(a:Nat)(R:List (List D)),6*l.length+5<=k->G9 R->a<R.length->R.length+2*l.length<=59->l.length<=24->
  match O5 k l with
  |some rest=> ∃(a':Nat)(R':List (List D)),G9 R'∧a'<R'.length∧(R.length<=R'.length∧R'.length+2*rest.length<=R.length+2*l.length)∧rest.length<=l.length∧
   g8 Tryz.prog T (c6 Tryz.prog T L0) 89 (cq Tryz.f89 [0,0,0,1,1,1]) ⟨[.one (.c (.ptr 0 0 0)),J,J,.one (.c (.d (.v (.int .i64 ((a:Int)))))),J,J,J,J,J,J,J,J,J,J,J,J,J,J,J,J,J,J,J,J,J,J,J,J,J,J,J,J,J,J,J,J,J,J,J,J,J,J,J,J,J,J,J,J,J,J,J,J],c7 [some (.var [.d (.v (.string (B (l)))),.arr 2 0 R.length,.d (.v (.bool (false)))]),none,some (.arr 3 R)],3,2⟩=some (.exit 0,⟨[J,J,J,.one (.c (.d (.v (.int .i64 ((a':Int)))))),J,J,J,J,J,J,J,J,J,J,J,J,J,J,J,J,J,J,J,J,J,J,J,J,J,J,J,J,J,J,J,J,J,J,J,J,J,J,J,J,J,J,J,J,J,J,J,J],c7 [some (.var [.d (.v (.string (B (rest)))),.arr 2 0 R'.length,.d (.v (.bool (false)))]),none,some (.arr 3 R')],3,2⟩)
  |none=> ∃(w:Int)(l':List UInt8)(R':List (List D)),1<=R'.length∧R'.length<=R.length+2*l.length+2∧
   g8 Tryz.prog T (c6 Tryz.prog T L0) 89 (cq Tryz.f89 [0,0,0,1,1,1]) ⟨[.one (.c (.ptr 0 0 0)),J,J,.one (.c (.d (.v (.int .i64 ((a:Int)))))),J,J,J,J,J,J,J,J,J,J,J,J,J,J,J,J,J,J,J,J,J,J,J,J,J,J,J,J,J,J,J,J,J,J,J,J,J,J,J,J,J,J,J,J,J,J,J,J],c7 [some (.var [.d (.v (.string (B (l)))),.arr 2 0 R.length,.d (.v (.bool (false)))]),none,some (.arr 3 R)],3,2⟩=some (.exit 0,⟨[J,J,J,.one (.c (.d (.v (.int .i64 (w))))),J,J,J,J,J,J,J,J,J,J,J,J,J,J,J,J,J,J,J,J,J,J,J,J,J,J,J,J,J,J,J,J,J,J,J,J,J,J,J,J,J,J,J,J,J,J,J,J],c7 [some (.var [.d (.v (.string (B (l')))),.arr 2 0 R'.length,.d (.v (.bool (true)))]),none,some (.arr 3 R')],3,2⟩)
 |0,_,l,a,R,hk,_,_,_,_=>by omega
 |k+1,hT,l,a,R,hk,hR,ha,hlen,h24=>by
  simp only[O5]
  cases hs:E7 l with
  |true=>
   refine⟨a,R,hR,ha,by omega,by omega,?_⟩
   have h1:=a8n 124 l false R (by omega)
   have h2:=a8n 41 l false R (by omega)
   simp only[show((124:UInt8).toNat:Int)=124 from rfl,show((41:UInt8).toNat:Int)=41 from rfl]at h1 h2
   cases l with
   |nil=>
    clear hs hT hR
    exact lp L8
   |cons b t=>
    have e2:((b::t)=[])=False:=by simp
    have hs2:nx 124 (b::t)=true∨(nx 124 (b::t)=false∧nx 41 (b::t)=true):=by
     cases hx:nx 124 (b::t)with
     |true=>exact .inl rfl
     |false=>exact .inr ⟨rfl,by simpa [E7,hx]using hs⟩
    generalize nx 124 (b::t)=n1 at h1 hs2
    generalize nx 41 (b::t)=n2 at h2 hs2
    clear hs hT hR
    rcases hs2 with rfl|⟨rfl,rfl⟩
    all_goals
     exact lp L8
  |false=>
   cases l with
   |nil=>simp[E7]at hs
   |cons b t=>
    obtain⟨n1,n2⟩:=b2j hs
    have h1:=a8n 124 (b::t) false R (by omega)
    have h2:=a8n 41 (b::t) false R (by omega)
    simp only[show((124:UInt8).toNat:Int)=124 from rfl,show((41:UInt8).toNat:Int)=41 from rfl]at h1 h2
    rw[n1]at h1
    rw[n2]at h2
    have e2:((b::t)=[])=False:=by simp
    have hb:=hT k (by omega) (b::t) R (by omega) hR (by omega) h24
    obtain⟨p,ps,rfl⟩: ∃p ps,R=p::ps:=by
     cases R with
     |nil=>simp at ha
     |cons p ps=>exact⟨p,ps,rfl⟩
    simp only
    cases hm:G8 k (b::t)with
    |none=>
     rw[hm]at hb
     obtain⟨w,bs,e,hbs⟩:=hb
     rcases hbs with⟨l',rfl⟩|⟨l',R',z1,z2,rfl⟩
     ·have hp:=B9 5 [] [(a:Int),w] (by simp) l' true (p::ps) (ps.length+1) rfl ⟨by omega,by simp at hlen;omega⟩
      refine⟨((ps.length+1:Nat):Int),l',(p::ps)++[row 5 [] [(a:Int),w]],by simp,by simp;omega,?_⟩
      clear hs hT hR n1 n2 hm
      simp only[rI,List.map_cons,List.map_nil,List.length_cons,List.length_nil,Nat.zero_add,Nat.reduceAdd,hP]at h1 h2 hp e⊢
      refine D3 true (fun _=>L8.2) L8.1 rfl fun c hl=>?_;simp only[v8,C4,m7,List.length_cons,List.length_nil,Nat.reduceAdd,e7,and_true]at c hl;(try simp(maxSteps:=4000000) (disch:=first|assumption|omega) only[go_sem, *,h1,h2,e2,e,hp,i1,List.length_append,↓c9,↓d9,Nat.reduceAdd,Nat.reduceSub,Nat.reduceMul,Nat.reduceBEq,Nat.reduceLeDiff,Nat.reduceLT,Nat.reduceDiv,Nat.reduceMod]);repeat' ((first|with_reducible first|refine o8 (fun hb=>?_) fun hb=>?_|refine o9 (fun hb=>?_) fun hb=>?_|refine p8 (fun hb=>?_) fun hb=>?_|refine p9 (fun hb=>?_) fun hb=>?_|refine q7 (fun hb=>?_) fun hb=>?_|refine g7 (fun hb=>?_) fun hb=>?_|rw[i0 rfl])<;>try simp(maxSteps:=4000000) (disch:=first|assumption|omega) only[go_sem, *,h1,h2,e2,e,hp,i1,List.length_append,↓c9,↓d9,Nat.reduceAdd,Nat.reduceSub,Nat.reduceMul,Nat.reduceBEq,Nat.reduceLeDiff,Nat.reduceLT,Nat.reduceDiv,Nat.reduceMod])
     ·have hp:=B9 5 [] [(a:Int),w] (by simp) l' true R' R'.length rfl ⟨by omega,by omega⟩
      refine⟨((R'.length:Nat):Int),l',R'++[row 5 [] [(a:Int),w]],by simp,by simp at z2⊢;omega,?_⟩
      clear hs hT hR n1 n2 hm
      simp only[rI,List.map_cons,List.map_nil,List.length_cons,List.length_nil,Nat.zero_add,Nat.reduceAdd,hP,hQ]at h1 h2 hp e⊢
      refine D3 true (fun _=>L8.2) L8.1 rfl fun c hl=>?_;simp only[v8,C4,m7,List.length_cons,List.length_nil,Nat.reduceAdd,e7,and_true]at c hl;(try simp(maxSteps:=4000000) (disch:=first|assumption|omega) only[go_sem, *,h1,h2,e2,e,hp,i1,List.length_append,↓c9,↓d9,Nat.reduceAdd,Nat.reduceSub,Nat.reduceMul,Nat.reduceBEq,Nat.reduceLeDiff,Nat.reduceLT,Nat.reduceDiv,Nat.reduceMod]);repeat' ((first|with_reducible first|refine o8 (fun hb=>?_) fun hb=>?_|refine o9 (fun hb=>?_) fun hb=>?_|refine p8 (fun hb=>?_) fun hb=>?_|refine p9 (fun hb=>?_) fun hb=>?_|refine q7 (fun hb=>?_) fun hb=>?_|refine g7 (fun hb=>?_) fun hb=>?_|rw[i0 rfl])<;>try simp(maxSteps:=4000000) (disch:=first|assumption|omega) only[go_sem, *,h1,h2,e2,e,hp,i1,List.length_append,↓c9,↓d9,Nat.reduceAdd,Nat.reduceSub,Nat.reduceMul,Nat.reduceBEq,Nat.reduceLeDiff,Nat.reduceLT,Nat.reduceDiv,Nat.reduceMod])
    |some r=>
     rw[hm]at hb
     obtain⟨a2,R2,e,g1,g2,g3,g4⟩:=hb
     have ih:=c0j k (fun j hj=>hT j (by omega)) r R2.length (R2++[row 5 [] [(a:Int),(a2:Int)]]) (by omega) (y9 g1 (b3e (.inl rfl) (by omega) g2)) (by simp) (by simp;omega) (by omega)
     have hp:=B9 5 [] [(a:Int),(a2:Int)] (by simp) r false R2 R2.length rfl ⟨by omega,by omega⟩
     clear hs hT hR n1 n2 hm
     simp only
     cases hml:O5 k r with
     |some rest=>
      rw[hml]at ih
      obtain⟨a',R',q1,q2,q3,q4,q5⟩:=ih
      refine⟨a',R',q1,q2,by simp at q3 g3⊢;omega,by omega,?_⟩
      clear q1 q2 q3 q4 g1 g2 g3 g4 hml
      simp only[rI,List.map_cons,List.map_nil,List.length_cons,List.length_nil,Nat.zero_add,Nat.reduceAdd,hP,hQ,List.length_append]at h1 h2 hp e q5⊢
      rw[<-q5]
      clear q5
      refine D3 true (fun _=>L8.2) L8.1 rfl fun c hl=>?_;simp only[v8,C4,m7,List.length_cons,List.length_nil,Nat.reduceAdd,e7,and_true]at c hl;(try simp(maxSteps:=4000000) (disch:=first|assumption|omega) only[go_sem, *,h1,h2,e2,e,hp,List.length_append,↓c9,↓d9,Nat.reduceAdd,Nat.reduceSub,Nat.reduceMul,Nat.reduceBEq,Nat.reduceLeDiff,Nat.reduceLT,Nat.reduceDiv,Nat.reduceMod]);repeat' ((first|with_reducible first|refine o8 (fun hb=>?_) fun hb=>?_|refine o9 (fun hb=>?_) fun hb=>?_|refine p8 (fun hb=>?_) fun hb=>?_|refine p9 (fun hb=>?_) fun hb=>?_|refine q7 (fun hb=>?_) fun hb=>?_|refine g7 (fun hb=>?_) fun hb=>?_|rw[i0 rfl])<;>try simp(maxSteps:=4000000) (disch:=first|assumption|omega) only[go_sem, *,h1,h2,e2,e,hp,List.length_append,↓c9,↓d9,Nat.reduceAdd,Nat.reduceSub,Nat.reduceMul,Nat.reduceBEq,Nat.reduceLeDiff,Nat.reduceLT,Nat.reduceDiv,Nat.reduceMod])
     |none=>
      rw[hml]at ih
      obtain⟨w,l',R',q1,q2,q5⟩:=ih
      refine⟨w,l',R',q1,by simp at q2 g3⊢;omega,?_⟩
      clear q1 q2 g1 g2 g3 g4 hml
      simp only[rI,List.map_cons,List.map_nil,List.length_cons,List.length_nil,Nat.zero_add,Nat.reduceAdd,hP,hQ,List.length_append]at h1 h2 hp e q5⊢
      rw[<-q5]
      clear q5
      refine D3 true (fun _=>L8.2) L8.1 rfl fun c hl=>?_;simp only[v8,C4,m7,List.length_cons,List.length_nil,Nat.reduceAdd,e7,and_true]at c hl;(try simp(maxSteps:=4000000) (disch:=first|assumption|omega) only[go_sem, *,h1,h2,e2,e,hp,List.length_append,↓c9,↓d9,Nat.reduceAdd,Nat.reduceSub,Nat.reduceMul,Nat.reduceBEq,Nat.reduceLeDiff,Nat.reduceLT,Nat.reduceDiv,Nat.reduceMod]);repeat' ((first|with_reducible first|refine o8 (fun hb=>?_) fun hb=>?_|refine o9 (fun hb=>?_) fun hb=>?_|refine p8 (fun hb=>?_) fun hb=>?_|refine p9 (fun hb=>?_) fun hb=>?_|refine q7 (fun hb=>?_) fun hb=>?_|refine g7 (fun hb=>?_) fun hb=>?_|rw[i0 rfl])<;>try simp(maxSteps:=4000000) (disch:=first|assumption|omega) only[go_sem, *,h1,h2,e2,e,hp,List.length_append,↓c9,↓d9,Nat.reduceAdd,Nat.reduceSub,Nat.reduceMul,Nat.reduceBEq,Nat.reduceLeDiff,Nat.reduceLT,Nat.reduceDiv,Nat.reduceMod])
end
end Go.Vsi
