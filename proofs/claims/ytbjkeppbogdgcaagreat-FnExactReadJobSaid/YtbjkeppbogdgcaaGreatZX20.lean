/- What the functions of the program, of the reference and of the law do (a part of it). -/
import Derived.Test.YtbjkeppbogdgcaaGreatZX19
import Derived.Test.YtbjkeppbogdgcaaGreatZX11
namespace Go.Vsi
open Go.Proofs
noncomputable section
set_option maxRecDepth 100000
set_option maxHeartbeats 4000000
set_option linter.unusedSimpArgs false
set_option linter.unusedVariables false
attribute [local go_sem ↓] v6
theorem e4e(s:List UInt8)(hs:s.length<=24)(n a:Nat)(R:List (List D))(hn:n<=s.length)(hR:1<=R.length)(hx:nx 124 (s.drop n)=false):g8 Tryz.prog T (c6 Tryz.prog T L0) 88 (cq Tryz.f88 [0,0,0,1,1]) ⟨[.one (.c (.ptr 0 0 0)),J,J,.one (.c (.d (.v (.int .i64 ((a:Int)))))),J,J,J,J,J,J,J,J,J,J,J,J,J,J,J,J,J,J,J,J,J,J],c7 [some (.var [.d (.v (.string (B (s)))),.d (.v (.int .i64 ((n:Int)))),.d (.v (.bool (false))),.arr 1 0 R.length]),some (.arr 3 R)],2,1⟩=some (.exit 0,⟨[J,J,J,.one (.c (.d (.v (.int .i64 ((a:Int)))))),J,J,J,J,J,J,J,J,J,J,J,J,J,J,J,J,J,J,J,J,J,J],c7 [some (.var [.d (.v (.string (B (s)))),.d (.v (.int .i64 ((n:Int)))),.d (.v (.bool (false))),.arr 1 0 R.length]),some (.arr 3 R)],2,1⟩):=by
 have j1:=D8 124 s n (by omega) hs R (by omega)
 simp only[show((124:UInt8).toNat:Int)=124 from rfl]at j1
 rw[hx]at j1
 clear hx
 exact lp W88
theorem e4f(s:List UInt8)(hs:s.length<=24)(n a n':Nat)(w:Int)(p:List D)(ps:List (List D))(hn:n<=s.length)(hx:nx 124 (s.drop n)=true)(hlen:(p::ps).length<=59)(e:c6 Tryz.prog T L0 93 [.c (.ptr 0 0 0)] (hS s (n+1) false (p::ps))=some (.one (.c (.d (.v (.int .i64 (w))))),hS s n' true (p::ps))):g8 Tryz.prog T (c6 Tryz.prog T L0) 88 (cq Tryz.f88 [0,0,0,1,1]) ⟨[.one (.c (.ptr 0 0 0)),J,J,.one (.c (.d (.v (.int .i64 ((a:Int)))))),J,J,J,J,J,J,J,J,J,J,J,J,J,J,J,J,J,J,J,J,J,J],c7 [some (.var [.d (.v (.string (B (s)))),.d (.v (.int .i64 ((n:Int)))),.d (.v (.bool (false))),.arr 1 0 (p::ps).length]),some (.arr 3 (p::ps))],2,1⟩=some (.exit 0,⟨[J,J,J,.one (.c (.d (.v (.int .i64 (((ps.length+1:Nat):Int)))))),J,J,J,J,J,J,J,J,J,J,J,J,J,J,J,J,J,J,J,J,J,J],c7 [some (.var [.d (.v (.string (B (s)))),.d (.v (.int .i64 ((n':Int)))),.d (.v (.bool (true))),.arr 1 0 ((p::ps)++[row 6 [] [(a:Int),w]]).length]),some (.arr 3 ((p::ps)++[row 6 [] [(a:Int),w]]))],2,1⟩):=by
 have j1:=D8 124 s n (by omega) hs (p::ps) (by simp)
 simp only[show((124:UInt8).toNat:Int)=124 from rfl]at j1
 rw[hx]at j1
 have ec:((n+1:Nat):Int)=(n:Int)+1:=by omega
 have hl3:(n:Int)<=24:=by omega
 clear hx
 have hp:=I4 6 [] [(a:Int),w] (by simp) s n' (p::ps) (ps.length+1) rfl ⟨by omega,by simp at hlen;omega⟩
 have hj:=a6e 124 s n' ((p::ps)++[row 6 [] [(a:Int),w]])
 simp only[rI,List.map_cons,List.map_nil,List.length_cons,List.length_nil,Nat.zero_add,Nat.reduceAdd,hS,ec,List.cons_append,List.length_append]at hp e hj j1⊢
 refine D3 true (fun _=>W88.2) W88.1 rfl fun c hl=>?_;simp only[v8,C4,m7,List.length_cons,List.length_nil,Nat.reduceAdd,e7,and_true]at c hl;(try simp(maxSteps:=4000000) (disch:=first|assumption|omega) only[go_sem, *,i3,Option.isSome_some,j1,e,hp,hj,n6,i1,List.length_append,↓c9,↓d9,Nat.reduceAdd,Nat.reduceSub,Nat.reduceMul,Nat.reduceBEq,Nat.reduceLeDiff,Nat.reduceLT,Nat.reduceDiv,Nat.reduceMod]);repeat' ((first|with_reducible first|refine o8 (fun hb=>?_) fun hb=>?_|refine o9 (fun hb=>?_) fun hb=>?_|refine p8 (fun hb=>?_) fun hb=>?_|refine p9 (fun hb=>?_) fun hb=>?_|refine q7 (fun hb=>?_) fun hb=>?_|refine g7 (fun hb=>?_) fun hb=>?_|rw[i0 rfl])<;>try simp(maxSteps:=4000000) (disch:=first|assumption|omega) only[go_sem, *,i3,Option.isSome_some,j1,e,hp,hj,n6,i1,List.length_append,↓c9,↓d9,Nat.reduceAdd,Nat.reduceSub,Nat.reduceMul,Nat.reduceBEq,Nat.reduceLeDiff,Nat.reduceLT,Nat.reduceDiv,Nat.reduceMod])
theorem e4g(s:List UInt8)(hs:s.length<=24)(n a n':Nat)(w:Int)(p:List D)(ps R':List (List D))(hn:n<=s.length)(hx:nx 124 (s.drop n)=true)(hlen:(p::ps).length<=59)(y1:1<=R'.length)(y2:R'.length<=99)(e:c6 Tryz.prog T L0 93 [.c (.ptr 0 0 0)] (hS s (n+1) false (p::ps))=some (.one (.c (.d (.v (.int .i64 (w))))),hT (p::ps) s n' true R')):g8 Tryz.prog T (c6 Tryz.prog T L0) 88 (cq Tryz.f88 [0,0,0,1,1]) ⟨[.one (.c (.ptr 0 0 0)),J,J,.one (.c (.d (.v (.int .i64 ((a:Int)))))),J,J,J,J,J,J,J,J,J,J,J,J,J,J,J,J,J,J,J,J,J,J],c7 [some (.var [.d (.v (.string (B (s)))),.d (.v (.int .i64 ((n:Int)))),.d (.v (.bool (false))),.arr 1 0 (p::ps).length]),some (.arr 3 (p::ps))],2,1⟩=some (.exit 0,⟨[J,J,J,.one (.c (.d (.v (.int .i64 (((R'.length:Nat):Int)))))),J,J,J,J,J,J,J,J,J,J,J,J,J,J,J,J,J,J,J,J,J,J],c7 [some (.var [.d (.v (.string (B (s)))),.d (.v (.int .i64 ((n':Int)))),.d (.v (.bool (true))),.arr 1 0 (R'++[row 6 [] [(a:Int),w]]).length]),some (.arr 3 (R'++[row 6 [] [(a:Int),w]]))],2,1⟩):=by
 have j1:=D8 124 s n (by omega) hs (p::ps) (by simp)
 simp only[show((124:UInt8).toNat:Int)=124 from rfl]at j1
 rw[hx]at j1
 have ec:((n+1:Nat):Int)=(n:Int)+1:=by omega
 have hl3:(n:Int)<=24:=by omega
 clear hx
 have hp:=I4 6 [] [(a:Int),w] (by simp) s n' R' R'.length rfl ⟨by omega,by omega⟩
 have hj:=a7f 124 s n' (R'++[row 6 [] [(a:Int),w]]) (by simp)
 simp only[rI,List.map_cons,List.map_nil,List.length_cons,List.length_nil,Nat.zero_add,Nat.reduceAdd,hS,hT,ec,List.length_append]at hp e hj j1⊢
 refine D3 true (fun _=>W88.2) W88.1 rfl fun c hl=>?_;simp only[v8,C4,m7,List.length_cons,List.length_nil,Nat.reduceAdd,e7,and_true]at c hl;(try simp(maxSteps:=4000000) (disch:=first|assumption|omega) only[go_sem, *,i3,Option.isSome_some,j1,e,hp,hj,n6,i1,List.length_append,↓c9,↓d9,Nat.reduceAdd,Nat.reduceSub,Nat.reduceMul,Nat.reduceBEq,Nat.reduceLeDiff,Nat.reduceLT,Nat.reduceDiv,Nat.reduceMod]);repeat' ((first|with_reducible first|refine o8 (fun hb=>?_) fun hb=>?_|refine o9 (fun hb=>?_) fun hb=>?_|refine p8 (fun hb=>?_) fun hb=>?_|refine p9 (fun hb=>?_) fun hb=>?_|refine q7 (fun hb=>?_) fun hb=>?_|refine g7 (fun hb=>?_) fun hb=>?_|rw[i0 rfl])<;>try simp(maxSteps:=4000000) (disch:=first|assumption|omega) only[go_sem, *,i3,Option.isSome_some,j1,e,hp,hj,n6,i1,List.length_append,↓c9,↓d9,Nat.reduceAdd,Nat.reduceSub,Nat.reduceMul,Nat.reduceBEq,Nat.reduceLeDiff,Nat.reduceLT,Nat.reduceDiv,Nat.reduceMod])
theorem c7o(s:List UInt8)(hs:s.length<=24)(n a n2 a2:Nat)(p:List D)(ps R2:List (List D))(hn:n<=s.length)(hx:nx 124 (s.drop n)=true)(hlen:(p::ps).length<=59)(h2:1<=R2.length)(h3:R2.length<=59)(e:c6 Tryz.prog T L0 93 [.c (.ptr 0 0 0)] (hS s (n+1) false (p::ps))=some (.one (.c (.d (.v (.int .i64 ((a2:Int)))))),hT (p::ps) s n2 false R2))(rhs:Option (Ex×St))(q5:g8 Tryz.prog T (c6 Tryz.prog T L0) 88 (cq Tryz.f88 [0,0,0,1,1]) ⟨[.one (.c (.ptr 0 0 0)),J,J,.one (.c (.d (.v (.int .i64 (((R2.length:Nat):Int)))))),J,J,J,J,J,J,J,J,J,J,J,J,J,J,J,J,J,J,J,J,J,J],c7 [some (.var [.d (.v (.string (B (s)))),.d (.v (.int .i64 ((n2:Int)))),.d (.v (.bool (false))),.arr 1 0 (R2++[row 6 [] [(a:Int),(a2:Int)]]).length]),some (.arr 3 (R2++[row 6 [] [(a:Int),(a2:Int)]]))],2,1⟩=rhs):g8 Tryz.prog T (c6 Tryz.prog T L0) 88 (cq Tryz.f88 [0,0,0,1,1]) ⟨[.one (.c (.ptr 0 0 0)),J,J,.one (.c (.d (.v (.int .i64 ((a:Int)))))),J,J,J,J,J,J,J,J,J,J,J,J,J,J,J,J,J,J,J,J,J,J],c7 [some (.var [.d (.v (.string (B (s)))),.d (.v (.int .i64 ((n:Int)))),.d (.v (.bool (false))),.arr 1 0 (p::ps).length]),some (.arr 3 (p::ps))],2,1⟩=rhs:=by
 have j1:=D8 124 s n (by omega) hs (p::ps) (by simp)
 simp only[show((124:UInt8).toNat:Int)=124 from rfl]at j1
 rw[hx]at j1
 have ec:((n+1:Nat):Int)=(n:Int)+1:=by omega
 have hl3:(n:Int)<=24:=by omega
 clear hx
 have hp:=a2f 6 [] [(a:Int),(a2:Int)] (by simp) s n2 false R2 R2.length rfl ⟨by omega,by omega⟩
 simp only[rI,List.map_cons,List.map_nil,List.length_cons,List.length_nil,Nat.zero_add,Nat.reduceAdd,hS,hT,ec,List.length_append]at hp e q5 j1⊢
 rw[<-q5]
 clear q5
 refine D3 true (fun _=>W88.2) W88.1 rfl fun c hl=>?_;simp only[v8,C4,m7,List.length_cons,List.length_nil,Nat.reduceAdd,e7,and_true]at c hl;(try simp(maxSteps:=4000000) (disch:=first|assumption|omega) only[go_sem, *,i3,Option.isSome_some,j1,e,hp,n6,List.length_append,↓c9,↓d9,Nat.reduceAdd,Nat.reduceSub,Nat.reduceMul,Nat.reduceBEq,Nat.reduceLeDiff,Nat.reduceLT,Nat.reduceDiv,Nat.reduceMod]);repeat' ((first|with_reducible first|refine o8 (fun hb=>?_) fun hb=>?_|refine o9 (fun hb=>?_) fun hb=>?_|refine p8 (fun hb=>?_) fun hb=>?_|refine p9 (fun hb=>?_) fun hb=>?_|refine q7 (fun hb=>?_) fun hb=>?_|refine g7 (fun hb=>?_) fun hb=>?_|rw[i0 rfl])<;>try simp(maxSteps:=4000000) (disch:=first|assumption|omega) only[go_sem, *,i3,Option.isSome_some,j1,e,hp,n6,List.length_append,↓c9,↓d9,Nat.reduceAdd,Nat.reduceSub,Nat.reduceMul,Nat.reduceBEq,Nat.reduceLeDiff,Nat.reduceLT,Nat.reduceDiv,Nat.reduceMod])
theorem b7k(s:List UInt8)(hs:s.length<=24): ∀(k:Nat),(∀j,j<k->Q7 93 T4 1 5 j)-> ∀(n a:Nat)(R:List (List D)),n<=s.length->6*(s.length-n)+1<=k->1<=R.length->R.length+2*(s.length-n)<=59->
  match O4 k (s.drop n)with
  |some rest=> ∃(a' n':Nat)(R':List (List D)),n'<=s.length∧rest=s.drop n'∧(R.length<=R'.length∧R'.length+2*(s.length-n')<=R.length+2*(s.length-n))∧(s.length-n'<=s.length-n)∧
   g8 Tryz.prog T (c6 Tryz.prog T L0) 88 (cq Tryz.f88 [0,0,0,1,1]) ⟨[.one (.c (.ptr 0 0 0)),J,J,.one (.c (.d (.v (.int .i64 ((a:Int)))))),J,J,J,J,J,J,J,J,J,J,J,J,J,J,J,J,J,J,J,J,J,J],c7 [some (.var [.d (.v (.string (B (s)))),.d (.v (.int .i64 ((n:Int)))),.d (.v (.bool (false))),.arr 1 0 R.length]),some (.arr 3 R)],2,1⟩=some (.exit 0,⟨[J,J,J,.one (.c (.d (.v (.int .i64 ((a':Int)))))),J,J,J,J,J,J,J,J,J,J,J,J,J,J,J,J,J,J,J,J,J,J],c7 [some (.var [.d (.v (.string (B (s)))),.d (.v (.int .i64 ((n':Int)))),.d (.v (.bool (false))),.arr 1 0 R'.length]),some (.arr 3 R')],2,1⟩)
  |none=> ∃(w:Int)(n':Nat)(R':List (List D)),1<=R'.length∧R'.length<=R.length+2*(s.length-n)+2∧
   g8 Tryz.prog T (c6 Tryz.prog T L0) 88 (cq Tryz.f88 [0,0,0,1,1]) ⟨[.one (.c (.ptr 0 0 0)),J,J,.one (.c (.d (.v (.int .i64 ((a:Int)))))),J,J,J,J,J,J,J,J,J,J,J,J,J,J,J,J,J,J,J,J,J,J],c7 [some (.var [.d (.v (.string (B (s)))),.d (.v (.int .i64 ((n:Int)))),.d (.v (.bool (false))),.arr 1 0 R.length]),some (.arr 3 R)],2,1⟩=some (.exit 0,⟨[J,J,J,.one (.c (.d (.v (.int .i64 (w))))),J,J,J,J,J,J,J,J,J,J,J,J,J,J,J,J,J,J,J,J,J,J],c7 [some (.var [.d (.v (.string (B (s)))),.d (.v (.int .i64 ((n':Int)))),.d (.v (.bool (true))),.arr 1 0 R'.length]),some (.arr 3 R')],2,1⟩)
 |0,_,n,a,R,_,hk,_,_=>by omega
 |k+1,hT',n,a,R,hn,hk,hR,hlen=>by
  simp only[O4]
  cases hx:nx 124 (s.drop n)with
  |false=>exact⟨a,n,R,hn,rfl,⟨by omega,by omega⟩,by omega,e4e s hs n a R hn hR hx⟩
  |true=>
   have hl:=a6d hx
   rw[ne_eq,List.drop_eq_nil_iff]at hl
   obtain⟨p,ps,rfl⟩: ∃p ps,R=p::ps:=by
    cases R with
    |nil=>simp at hR
    |cons p ps=>exact⟨p,ps,rfl⟩
   have hb:=hT' k (by omega) s (n+1) (p::ps) (by omega) (by omega) (by omega) hs
   simp only[List.drop_drop]
   cases hm:T4 k (s.drop (n+1))with
   |none=>
    rw[hm]at hb
    obtain⟨w,bs,e,hbs⟩:=hb
    rcases hbs with⟨n',rfl⟩|⟨n',R',y1,y2,rfl⟩
    ·exact⟨((ps.length+1:Nat):Int),n',(p::ps)++[row 6 [] [(a:Int),w]],by simp,by simp;omega,e4f s hs n a n' w p ps hn hx (by omega) e⟩
    ·exact⟨((R'.length:Nat):Int),n',R'++[row 6 [] [(a:Int),w]],by simp,by have e1:(p::ps).length=ps.length+1:=rfl;simp at y2⊢;omega,e4g s hs n a n' w p ps R' hn hx (by omega) y1 (by omega) e⟩
   |some r=>
    rw[hm]at hb
    obtain⟨a2,n2,R2,e,g1,g2,⟨g3,g4⟩,g5⟩:=hb
    subst g2
    have ih:=b7k s hs k (fun j hj=>hT' j (by omega)) n2 R2.length (R2++[row 6 [] [(a:Int),(a2:Int)]]) g1 (by omega) (by simp) (by simp;omega)
    clear hT' hm
    simp only
    cases hml:O4 k (s.drop n2)with
    |some rest=>
     rw[hml]at ih
     obtain⟨a',n',R',q1,q2,q3,q4,q5⟩:=ih
     exact⟨a',n',R',q1,q2,by have e1:(p::ps).length=ps.length+1:=rfl;simp at q3 g4⊢;omega,by omega,c7o s hs n a n2 a2 p ps R2 hn hx (by omega) (by omega) (by omega) e _ q5⟩
    |none=>
     rw[hml]at ih
     obtain⟨w,n',R',q1,q2,q5⟩:=ih
     exact⟨w,n',R',q1,by have e1:(p::ps).length=ps.length+1:=rfl;simp at q2 g4⊢;omega,c7o s hs n a n2 a2 p ps R2 hn hx (by omega) (by omega) (by omega) e _ q5⟩
theorem e4h(s:List UInt8)(hs:s.length<=24)(n a:Nat)(R:List (List D))(hn:n<=s.length)(hR:1<=R.length)(hx:nx 124 (s.drop n)=false):g8 Tryz.prog T (c6 Tryz.prog T L0) 88 (cq Tryz.f88 [0,0,0,1,1]) ⟨[.one (.c (.ptr 0 0 0)),J,J,.one (.c (.d (.v (.int .i64 ((a:Int)))))),J,J,J,J,J,J,J,J,J,J,J,J,J,J,J,J,J,J,J,J,J,J],c7 [some (.var [.d (.v (.string (B (s)))),.d (.v (.int .i64 ((n:Int)))),.d (.v (.bool (false))),.arr 2 0 R.length]),none,some (.arr 3 R)],3,2⟩=some (.exit 0,⟨[J,J,J,.one (.c (.d (.v (.int .i64 ((a:Int)))))),J,J,J,J,J,J,J,J,J,J,J,J,J,J,J,J,J,J,J,J,J,J],c7 [some (.var [.d (.v (.string (B (s)))),.d (.v (.int .i64 ((n:Int)))),.d (.v (.bool (false))),.arr 2 0 R.length]),none,some (.arr 3 R)],3,2⟩):=by
 have j1:=D8 124 s n (by omega) hs R (by omega)
 simp only[show((124:UInt8).toNat:Int)=124 from rfl]at j1
 rw[hx]at j1
 clear hx
 exact lp W88
theorem e4i(s:List UInt8)(hs:s.length<=24)(n a n':Nat)(w:Int)(p:List D)(ps:List (List D))(hn:n<=s.length)(hx:nx 124 (s.drop n)=true)(hlen:(p::ps).length<=59)(e:c6 Tryz.prog T L0 93 [.c (.ptr 0 0 0)] (hS s (n+1) false (p::ps))=some (.one (.c (.d (.v (.int .i64 (w))))),hS s n' true (p::ps))):g8 Tryz.prog T (c6 Tryz.prog T L0) 88 (cq Tryz.f88 [0,0,0,1,1]) ⟨[.one (.c (.ptr 0 0 0)),J,J,.one (.c (.d (.v (.int .i64 ((a:Int)))))),J,J,J,J,J,J,J,J,J,J,J,J,J,J,J,J,J,J,J,J,J,J],c7 [some (.var [.d (.v (.string (B (s)))),.d (.v (.int .i64 ((n:Int)))),.d (.v (.bool (false))),.arr 2 0 (p::ps).length]),none,some (.arr 3 (p::ps))],3,2⟩=some (.exit 0,⟨[J,J,J,.one (.c (.d (.v (.int .i64 (((ps.length+1:Nat):Int)))))),J,J,J,J,J,J,J,J,J,J,J,J,J,J,J,J,J,J,J,J,J,J],c7 [some (.var [.d (.v (.string (B (s)))),.d (.v (.int .i64 ((n':Int)))),.d (.v (.bool (true))),.arr 2 0 ((p::ps)++[row 6 [] [(a:Int),w]]).length]),none,some (.arr 3 ((p::ps)++[row 6 [] [(a:Int),w]]))],3,2⟩):=by
 have j1:=D8 124 s n (by omega) hs (p::ps) (by simp)
 simp only[show((124:UInt8).toNat:Int)=124 from rfl]at j1
 rw[hx]at j1
 have ec:((n+1:Nat):Int)=(n:Int)+1:=by omega
 have hl3:(n:Int)<=24:=by omega
 clear hx
 have hp:=I4 6 [] [(a:Int),w] (by simp) s n' (p::ps) (ps.length+1) rfl ⟨by omega,by simp at hlen;omega⟩
 have hj:=a6e 124 s n' ((p::ps)++[row 6 [] [(a:Int),w]])
 simp only[rI,List.map_cons,List.map_nil,List.length_cons,List.length_nil,Nat.zero_add,Nat.reduceAdd,hS,ec,List.cons_append,List.length_append]at hp e hj j1⊢
 refine D3 true (fun _=>W88.2) W88.1 rfl fun c hl=>?_;simp only[v8,C4,m7,List.length_cons,List.length_nil,Nat.reduceAdd,e7,and_true]at c hl;(try simp(maxSteps:=4000000) (disch:=first|assumption|omega) only[go_sem, *,i3,Option.isSome_some,j1,e,hp,hj,n6,i1,List.length_append,↓c9,↓d9,Nat.reduceAdd,Nat.reduceSub,Nat.reduceMul,Nat.reduceBEq,Nat.reduceLeDiff,Nat.reduceLT,Nat.reduceDiv,Nat.reduceMod]);repeat' ((first|with_reducible first|refine o8 (fun hb=>?_) fun hb=>?_|refine o9 (fun hb=>?_) fun hb=>?_|refine p8 (fun hb=>?_) fun hb=>?_|refine p9 (fun hb=>?_) fun hb=>?_|refine q7 (fun hb=>?_) fun hb=>?_|refine g7 (fun hb=>?_) fun hb=>?_|rw[i0 rfl])<;>try simp(maxSteps:=4000000) (disch:=first|assumption|omega) only[go_sem, *,i3,Option.isSome_some,j1,e,hp,hj,n6,i1,List.length_append,↓c9,↓d9,Nat.reduceAdd,Nat.reduceSub,Nat.reduceMul,Nat.reduceBEq,Nat.reduceLeDiff,Nat.reduceLT,Nat.reduceDiv,Nat.reduceMod])
theorem e4j(s:List UInt8)(hs:s.length<=24)(n a n':Nat)(w:Int)(p:List D)(ps R':List (List D))(hn:n<=s.length)(hx:nx 124 (s.drop n)=true)(hlen:(p::ps).length<=59)(y1:1<=R'.length)(y2:R'.length<=99)(e:c6 Tryz.prog T L0 93 [.c (.ptr 0 0 0)] (hS s (n+1) false (p::ps))=some (.one (.c (.d (.v (.int .i64 (w))))),hT (p::ps) s n' true R')):g8 Tryz.prog T (c6 Tryz.prog T L0) 88 (cq Tryz.f88 [0,0,0,1,1]) ⟨[.one (.c (.ptr 0 0 0)),J,J,.one (.c (.d (.v (.int .i64 ((a:Int)))))),J,J,J,J,J,J,J,J,J,J,J,J,J,J,J,J,J,J,J,J,J,J],c7 [some (.var [.d (.v (.string (B (s)))),.d (.v (.int .i64 ((n:Int)))),.d (.v (.bool (false))),.arr 2 0 (p::ps).length]),none,some (.arr 3 (p::ps))],3,2⟩=some (.exit 0,⟨[J,J,J,.one (.c (.d (.v (.int .i64 (((R'.length:Nat):Int)))))),J,J,J,J,J,J,J,J,J,J,J,J,J,J,J,J,J,J,J,J,J,J],c7 [some (.var [.d (.v (.string (B (s)))),.d (.v (.int .i64 ((n':Int)))),.d (.v (.bool (true))),.arr 2 0 (R'++[row 6 [] [(a:Int),w]]).length]),none,some (.arr 3 (R'++[row 6 [] [(a:Int),w]]))],3,2⟩):=by
 have j1:=D8 124 s n (by omega) hs (p::ps) (by simp)
 simp only[show((124:UInt8).toNat:Int)=124 from rfl]at j1
 rw[hx]at j1
 have ec:((n+1:Nat):Int)=(n:Int)+1:=by omega
 have hl3:(n:Int)<=24:=by omega
 clear hx
 have hp:=I4 6 [] [(a:Int),w] (by simp) s n' R' R'.length rfl ⟨by omega,by omega⟩
 have hj:=a7f 124 s n' (R'++[row 6 [] [(a:Int),w]]) (by simp)
 simp only[rI,List.map_cons,List.map_nil,List.length_cons,List.length_nil,Nat.zero_add,Nat.reduceAdd,hS,hT,ec,List.length_append]at hp e hj j1⊢
 refine D3 true (fun _=>W88.2) W88.1 rfl fun c hl=>?_;simp only[v8,C4,m7,List.length_cons,List.length_nil,Nat.reduceAdd,e7,and_true]at c hl;(try simp(maxSteps:=4000000) (disch:=first|assumption|omega) only[go_sem, *,i3,Option.isSome_some,j1,e,hp,hj,n6,i1,List.length_append,↓c9,↓d9,Nat.reduceAdd,Nat.reduceSub,Nat.reduceMul,Nat.reduceBEq,Nat.reduceLeDiff,Nat.reduceLT,Nat.reduceDiv,Nat.reduceMod]);repeat' ((first|with_reducible first|refine o8 (fun hb=>?_) fun hb=>?_|refine o9 (fun hb=>?_) fun hb=>?_|refine p8 (fun hb=>?_) fun hb=>?_|refine p9 (fun hb=>?_) fun hb=>?_|refine q7 (fun hb=>?_) fun hb=>?_|refine g7 (fun hb=>?_) fun hb=>?_|rw[i0 rfl])<;>try simp(maxSteps:=4000000) (disch:=first|assumption|omega) only[go_sem, *,i3,Option.isSome_some,j1,e,hp,hj,n6,i1,List.length_append,↓c9,↓d9,Nat.reduceAdd,Nat.reduceSub,Nat.reduceMul,Nat.reduceBEq,Nat.reduceLeDiff,Nat.reduceLT,Nat.reduceDiv,Nat.reduceMod])
theorem c7p(s:List UInt8)(hs:s.length<=24)(n a n2 a2:Nat)(p:List D)(ps R2:List (List D))(hn:n<=s.length)(hx:nx 124 (s.drop n)=true)(hlen:(p::ps).length<=59)(h2:1<=R2.length)(h3:R2.length<=59)(e:c6 Tryz.prog T L0 93 [.c (.ptr 0 0 0)] (hS s (n+1) false (p::ps))=some (.one (.c (.d (.v (.int .i64 ((a2:Int)))))),hT (p::ps) s n2 false R2))(rhs:Option (Ex×St))(q5:g8 Tryz.prog T (c6 Tryz.prog T L0) 88 (cq Tryz.f88 [0,0,0,1,1]) ⟨[.one (.c (.ptr 0 0 0)),J,J,.one (.c (.d (.v (.int .i64 (((R2.length:Nat):Int)))))),J,J,J,J,J,J,J,J,J,J,J,J,J,J,J,J,J,J,J,J,J,J],c7 [some (.var [.d (.v (.string (B (s)))),.d (.v (.int .i64 ((n2:Int)))),.d (.v (.bool (false))),.arr 2 0 (R2++[row 6 [] [(a:Int),(a2:Int)]]).length]),none,some (.arr 3 (R2++[row 6 [] [(a:Int),(a2:Int)]]))],3,2⟩=rhs):g8 Tryz.prog T (c6 Tryz.prog T L0) 88 (cq Tryz.f88 [0,0,0,1,1]) ⟨[.one (.c (.ptr 0 0 0)),J,J,.one (.c (.d (.v (.int .i64 ((a:Int)))))),J,J,J,J,J,J,J,J,J,J,J,J,J,J,J,J,J,J,J,J,J,J],c7 [some (.var [.d (.v (.string (B (s)))),.d (.v (.int .i64 ((n:Int)))),.d (.v (.bool (false))),.arr 2 0 (p::ps).length]),none,some (.arr 3 (p::ps))],3,2⟩=rhs:=by
 have j1:=D8 124 s n (by omega) hs (p::ps) (by simp)
 simp only[show((124:UInt8).toNat:Int)=124 from rfl]at j1
 rw[hx]at j1
 have ec:((n+1:Nat):Int)=(n:Int)+1:=by omega
 have hl3:(n:Int)<=24:=by omega
 clear hx
 have hp:=a2f 6 [] [(a:Int),(a2:Int)] (by simp) s n2 false R2 R2.length rfl ⟨by omega,by omega⟩
 simp only[rI,List.map_cons,List.map_nil,List.length_cons,List.length_nil,Nat.zero_add,Nat.reduceAdd,hS,hT,ec,List.length_append]at hp e q5 j1⊢
 rw[<-q5]
 clear q5
 refine D3 true (fun _=>W88.2) W88.1 rfl fun c hl=>?_;simp only[v8,C4,m7,List.length_cons,List.length_nil,Nat.reduceAdd,e7,and_true]at c hl;(try simp(maxSteps:=4000000) (disch:=first|assumption|omega) only[go_sem, *,i3,Option.isSome_some,j1,e,hp,n6,List.length_append,↓c9,↓d9,Nat.reduceAdd,Nat.reduceSub,Nat.reduceMul,Nat.reduceBEq,Nat.reduceLeDiff,Nat.reduceLT,Nat.reduceDiv,Nat.reduceMod]);repeat' ((first|with_reducible first|refine o8 (fun hb=>?_) fun hb=>?_|refine o9 (fun hb=>?_) fun hb=>?_|refine p8 (fun hb=>?_) fun hb=>?_|refine p9 (fun hb=>?_) fun hb=>?_|refine q7 (fun hb=>?_) fun hb=>?_|refine g7 (fun hb=>?_) fun hb=>?_|rw[i0 rfl])<;>try simp(maxSteps:=4000000) (disch:=first|assumption|omega) only[go_sem, *,i3,Option.isSome_some,j1,e,hp,n6,List.length_append,↓c9,↓d9,Nat.reduceAdd,Nat.reduceSub,Nat.reduceMul,Nat.reduceBEq,Nat.reduceLeDiff,Nat.reduceLT,Nat.reduceDiv,Nat.reduceMod])
theorem b7l(s:List UInt8)(hs:s.length<=24): ∀(k:Nat),(∀j,j<k->Q7 93 T4 1 5 j)-> ∀(n a:Nat)(R:List (List D)),n<=s.length->6*(s.length-n)+1<=k->1<=R.length->R.length+2*(s.length-n)<=59->
  match O4 k (s.drop n)with
  |some rest=> ∃(a' n':Nat)(R':List (List D)),n'<=s.length∧rest=s.drop n'∧(R.length<=R'.length∧R'.length+2*(s.length-n')<=R.length+2*(s.length-n))∧(s.length-n'<=s.length-n)∧
   g8 Tryz.prog T (c6 Tryz.prog T L0) 88 (cq Tryz.f88 [0,0,0,1,1]) ⟨[.one (.c (.ptr 0 0 0)),J,J,.one (.c (.d (.v (.int .i64 ((a:Int)))))),J,J,J,J,J,J,J,J,J,J,J,J,J,J,J,J,J,J,J,J,J,J],c7 [some (.var [.d (.v (.string (B (s)))),.d (.v (.int .i64 ((n:Int)))),.d (.v (.bool (false))),.arr 2 0 R.length]),none,some (.arr 3 R)],3,2⟩=some (.exit 0,⟨[J,J,J,.one (.c (.d (.v (.int .i64 ((a':Int)))))),J,J,J,J,J,J,J,J,J,J,J,J,J,J,J,J,J,J,J,J,J,J],c7 [some (.var [.d (.v (.string (B (s)))),.d (.v (.int .i64 ((n':Int)))),.d (.v (.bool (false))),.arr 2 0 R'.length]),none,some (.arr 3 R')],3,2⟩)
  |none=> ∃(w:Int)(n':Nat)(R':List (List D)),1<=R'.length∧R'.length<=R.length+2*(s.length-n)+2∧
   g8 Tryz.prog T (c6 Tryz.prog T L0) 88 (cq Tryz.f88 [0,0,0,1,1]) ⟨[.one (.c (.ptr 0 0 0)),J,J,.one (.c (.d (.v (.int .i64 ((a:Int)))))),J,J,J,J,J,J,J,J,J,J,J,J,J,J,J,J,J,J,J,J,J,J],c7 [some (.var [.d (.v (.string (B (s)))),.d (.v (.int .i64 ((n:Int)))),.d (.v (.bool (false))),.arr 2 0 R.length]),none,some (.arr 3 R)],3,2⟩=some (.exit 0,⟨[J,J,J,.one (.c (.d (.v (.int .i64 (w))))),J,J,J,J,J,J,J,J,J,J,J,J,J,J,J,J,J,J,J,J,J,J],c7 [some (.var [.d (.v (.string (B (s)))),.d (.v (.int .i64 ((n':Int)))),.d (.v (.bool (true))),.arr 2 0 R'.length]),none,some (.arr 3 R')],3,2⟩)
 |0,_,n,a,R,_,hk,_,_=>by omega
 |k+1,hT',n,a,R,hn,hk,hR,hlen=>by
  simp only[O4]
  cases hx:nx 124 (s.drop n)with
  |false=>exact⟨a,n,R,hn,rfl,⟨by omega,by omega⟩,by omega,e4h s hs n a R hn hR hx⟩
  |true=>
   have hl:=a6d hx
   rw[ne_eq,List.drop_eq_nil_iff]at hl
   obtain⟨p,ps,rfl⟩: ∃p ps,R=p::ps:=by
    cases R with
    |nil=>simp at hR
    |cons p ps=>exact⟨p,ps,rfl⟩
   have hb:=hT' k (by omega) s (n+1) (p::ps) (by omega) (by omega) (by omega) hs
   simp only[List.drop_drop]
   cases hm:T4 k (s.drop (n+1))with
   |none=>
    rw[hm]at hb
    obtain⟨w,bs,e,hbs⟩:=hb
    rcases hbs with⟨n',rfl⟩|⟨n',R',y1,y2,rfl⟩
    ·exact⟨((ps.length+1:Nat):Int),n',(p::ps)++[row 6 [] [(a:Int),w]],by simp,by simp;omega,e4i s hs n a n' w p ps hn hx (by omega) e⟩
    ·exact⟨((R'.length:Nat):Int),n',R'++[row 6 [] [(a:Int),w]],by simp,by have e1:(p::ps).length=ps.length+1:=rfl;simp at y2⊢;omega,e4j s hs n a n' w p ps R' hn hx (by omega) y1 (by omega) e⟩
   |some r=>
    rw[hm]at hb
    obtain⟨a2,n2,R2,e,g1,g2,⟨g3,g4⟩,g5⟩:=hb
    subst g2
    have ih:=b7l s hs k (fun j hj=>hT' j (by omega)) n2 R2.length (R2++[row 6 [] [(a:Int),(a2:Int)]]) g1 (by omega) (by simp) (by simp;omega)
    clear hT' hm
    simp only
    cases hml:O4 k (s.drop n2)with
    |some rest=>
     rw[hml]at ih
     obtain⟨a',n',R',q1,q2,q3,q4,q5⟩:=ih
     exact⟨a',n',R',q1,q2,by have e1:(p::ps).length=ps.length+1:=rfl;simp at q3 g4⊢;omega,by omega,c7p s hs n a n2 a2 p ps R2 hn hx (by omega) (by omega) (by omega) e _ q5⟩
    |none=>
     rw[hml]at ih
     obtain⟨w,n',R',q1,q2,q5⟩:=ih
     exact⟨w,n',R',q1,by have e1:(p::ps).length=ps.length+1:=rfl;simp at q2 g4⊢;omega,c7p s hs n a n2 a2 p ps R2 hn hx (by omega) (by omega) (by omega) e _ q5⟩
theorem e4k(k:Nat)(hT': ∀j,j<k+1->Q7 93 T4 1 5 j):Q7 88 F9 1 6 (k+1):=by
 intro s n R0 hn hk hlen hs
 have hb:=hT' k (by omega) s n R0 hn (by omega) hlen hs
 simp only[F9]
 cases hm:T4 k (s.drop n)with
 |none=>
  rw[hm]at hb
  obtain⟨w,bs,e,hbs⟩:=hb
  refine⟨w,bs,?_,hbs⟩
  clear hm hlen hk hT'
  rcases hbs with⟨n',rfl⟩|⟨n',R,y1,y2,rfl⟩
  ·have hj:=a6e 124 s n' R0
   cases R0
   all_goals
    simp only[hS,hT]at e hj⊢
    refine y0 true (fun _=>W88.2) W88.1 Tryz.func88 rfl rfl fun c ht hr=>?_;simp only[m7,List.length_cons,List.length_nil,Nat.reduceAdd,e7,and_true]at c;(try simp(maxSteps:=4000000) (disch:=first|assumption|omega) only[go_sem, *,i3,Option.isSome_some,e,hj,i1,↓c9,↓d9,Nat.reduceAdd,Nat.reduceSub,Nat.reduceMul,Nat.reduceBEq,Nat.reduceLeDiff,Nat.reduceLT,Nat.reduceDiv,Nat.reduceMod]);repeat' ((first|with_reducible first|refine o8 (fun hb=>?_) fun hb=>?_|refine o9 (fun hb=>?_) fun hb=>?_|refine p8 (fun hb=>?_) fun hb=>?_|refine p9 (fun hb=>?_) fun hb=>?_|refine q7 (fun hb=>?_) fun hb=>?_|refine g7 (fun hb=>?_) fun hb=>?_|rw[i0 rfl])<;>try simp(maxSteps:=4000000) (disch:=first|assumption|omega) only[go_sem, *,i3,Option.isSome_some,e,hj,i1,↓c9,↓d9,Nat.reduceAdd,Nat.reduceSub,Nat.reduceMul,Nat.reduceBEq,Nat.reduceLeDiff,Nat.reduceLT,Nat.reduceDiv,Nat.reduceMod])
  ·have hj:=a7f 124 s n' R y1
   cases R0
   all_goals
    simp only[hS,hT]at e hj⊢
    refine y0 true (fun _=>W88.2) W88.1 Tryz.func88 rfl rfl fun c ht hr=>?_;simp only[m7,List.length_cons,List.length_nil,Nat.reduceAdd,e7,and_true]at c;(try simp(maxSteps:=4000000) (disch:=first|assumption|omega) only[go_sem, *,i3,Option.isSome_some,e,hj,i1,↓c9,↓d9,Nat.reduceAdd,Nat.reduceSub,Nat.reduceMul,Nat.reduceBEq,Nat.reduceLeDiff,Nat.reduceLT,Nat.reduceDiv,Nat.reduceMod]);repeat' ((first|with_reducible first|refine o8 (fun hb=>?_) fun hb=>?_|refine o9 (fun hb=>?_) fun hb=>?_|refine p8 (fun hb=>?_) fun hb=>?_|refine p9 (fun hb=>?_) fun hb=>?_|refine q7 (fun hb=>?_) fun hb=>?_|refine g7 (fun hb=>?_) fun hb=>?_|rw[i0 rfl])<;>try simp(maxSteps:=4000000) (disch:=first|assumption|omega) only[go_sem, *,i3,Option.isSome_some,e,hj,i1,↓c9,↓d9,Nat.reduceAdd,Nat.reduceSub,Nat.reduceMul,Nat.reduceBEq,Nat.reduceLeDiff,Nat.reduceLT,Nat.reduceDiv,Nat.reduceMod])
 |some r=>
  rw[hm]at hb
  obtain⟨a,n2,R,e,g1,g2,⟨g3,g4⟩,g5⟩:=hb
  subst g2
  simp only
  cases R0 with
  |nil=>
   have ih:=b7k s hs k (fun j hj=>hT' j (by omega)) n2 a R g1 (by omega) (by omega) (by simp at g4 hlen;omega)
   cases hml:O4 k (s.drop n2)with
   |some rest=>
    rw[hml]at ih
    obtain⟨a',n',R',q1,q2,q3,q4,q5⟩:=ih
    refine⟨a',n',R',?_,q1,q2,⟨by omega,by simp at g4⊢;omega⟩,by omega⟩
    clear q1 q2 q3 q4 g1 g3 g4 g5 hml hm hlen hk hT'
    simp only[hS,hT]at e⊢
    exact fn W88 Tryz.func88
   |none=>
    rw[hml]at ih
    obtain⟨w,n',R',q1,q2,q5⟩:=ih
    refine⟨w,_,?_,.inr ⟨n',R',q1,by simp at g4⊢;omega,rfl⟩⟩
    clear q1 q2 g1 g3 g4 g5 hml hm hlen hk hT'
    simp only[hS,hT]at e⊢
    exact fn W88 Tryz.func88
  |cons p ps=>
   have ih:=b7l s hs k (fun j hj=>hT' j (by omega)) n2 a R g1 (by omega) (by omega) (by simp at g4 hlen;omega)
   cases hml:O4 k (s.drop n2)with
   |some rest=>
    rw[hml]at ih
    obtain⟨a',n',R',q1,q2,q3,q4,q5⟩:=ih
    refine⟨a',n',R',?_,q1,q2,⟨by omega,by simp at g4⊢;omega⟩,by omega⟩
    clear q1 q2 q3 q4 g1 g3 g4 g5 hml hm hlen hk hT'
    simp only[hS,hT]at e⊢
    exact fn W88 Tryz.func88
   |none=>
    rw[hml]at ih
    obtain⟨w,n',R',q1,q2,q5⟩:=ih
    refine⟨w,_,?_,.inr ⟨n',R',q1,by simp at g4⊢;omega,rfl⟩⟩
    clear q1 q2 g1 g3 g4 g5 hml hm hlen hk hT'
    simp only[hS,hT]at e⊢
    exact fn W88 Tryz.func88
theorem e4l: ∀(k:Nat),Q7 88 F9 1 6 k∧Q7 93 T4 1 5 k∧Q7 100 G8 0 4 k∧Q7 102 y7 0 3 k:=by
 intro k
 induction k using Nat.strongRecOn with
 |ind k ih=>
  cases k with
  |zero=>exact⟨fun s n R0 h hk=>by omega,fun s n R0 h hk=>by omega,fun s n R0 h hk=>by omega,fun s n R0 h hk=>by omega⟩
  |succ k=>
   exact⟨e4k k (fun j hj=>(ih j hj).2.1),e4d k (fun j hj=>(ih j hj).2.2.1),d9g k (ih k (by omega)).2.2.2,d4q k (ih k (by omega)).1⟩
theorem b7m:c1o 82 rdP:=by
 intro s hs
 unfold rdP
 have:maxLen=9223372036854775807:=rfl
 by_cases hlen:1<=(s.length:Int)∧(s.length:Int)<=24
 ·have hA:=(e4l 150).1 s 0 [] (by omega) (by omega) (by simp;omega) (by omega)
  rw[List.drop_zero]at hA
  simp only[d8z hlen,Bool.true_and]
  cases hm:F9 150 s with
  |none=>
   rw[hm]at hA
   obtain⟨w,bs,e,hbs⟩:=hA
   refine⟨.v (.slice none 0 0),?_⟩
   clear hm
   rcases hbs with⟨n',rfl⟩|⟨n',R,z1,z2,rfl⟩
   all_goals
    simp only[hS,hT,Int.natCast_zero,Int.ofNat_zero]at e
    refine y0 true (fun _=>W82.2) W82.1 Tryz.func82 rfl rfl fun c ht hr=>?_;simp only[m7,List.length_cons,List.length_nil,Nat.reduceAdd,e7,and_true]at c;(try simp(maxSteps:=4000000) (disch:=first|assumption|omega) only[go_sem, *,i3,Option.isSome_some,e,a4i,u5,n6,↓c9,↓d9,Nat.reduceAdd,Nat.reduceSub,Nat.reduceMul,Nat.reduceBEq,Nat.reduceLeDiff,Nat.reduceLT,Nat.reduceDiv,Nat.reduceMod]);repeat' ((first|with_reducible first|refine o8 (fun hb=>?_) fun hb=>?_|refine o9 (fun hb=>?_) fun hb=>?_|refine p8 (fun hb=>?_) fun hb=>?_|refine p9 (fun hb=>?_) fun hb=>?_|refine q7 (fun hb=>?_) fun hb=>?_|refine g7 (fun hb=>?_) fun hb=>?_|rw[i0 rfl])<;>try simp(maxSteps:=4000000) (disch:=first|assumption|omega) only[go_sem, *,i3,Option.isSome_some,e,a4i,u5,n6,↓c9,↓d9,Nat.reduceAdd,Nat.reduceSub,Nat.reduceMul,Nat.reduceBEq,Nat.reduceLeDiff,Nat.reduceLT,Nat.reduceDiv,Nat.reduceMod])
  |some r=>
   rw[hm]at hA
   obtain⟨a,n,R,e,g1,g2,⟨g3,g4⟩,g5⟩:=hA
   subst g2
   have ht:R.take R.length=R:=List.take_of_length_le (Nat.le_refl _)
   clear hm g3 g4 g5
   by_cases hn:n<s.length
   ·have he:(s.drop n).isEmpty=false:=by
     rw[List.isEmpty_eq_false_iff,ne_eq,List.drop_eq_nil_iff]
     omega
    refine⟨.v (.slice none 0 0),?_⟩
    have hl2:(n:Int)<(s.length:Int):=by omega
    simp only[he]
    simp only[hS,hT,Int.natCast_zero,Int.ofNat_zero]at e
    refine y0 true (fun _=>W82.2) W82.1 Tryz.func82 rfl rfl fun c ht hr=>?_;simp only[m7,List.length_cons,List.length_nil,Nat.reduceAdd,e7,and_true]at c;(try simp(maxSteps:=4000000) (disch:=first|assumption|omega) only[go_sem, *,i3,Option.isSome_some,e,a4i,u5,hl2,↓c9,↓d9,Nat.reduceAdd,Nat.reduceSub,Nat.reduceMul,Nat.reduceBEq,Nat.reduceLeDiff,Nat.reduceLT,Nat.reduceDiv,Nat.reduceMod]);repeat' ((first|with_reducible first|refine o8 (fun hb=>?_) fun hb=>?_|refine o9 (fun hb=>?_) fun hb=>?_|refine p8 (fun hb=>?_) fun hb=>?_|refine p9 (fun hb=>?_) fun hb=>?_|refine q7 (fun hb=>?_) fun hb=>?_|refine g7 (fun hb=>?_) fun hb=>?_|rw[i0 rfl])<;>try simp(maxSteps:=4000000) (disch:=first|assumption|omega) only[go_sem, *,i3,Option.isSome_some,e,a4i,u5,hl2,↓c9,↓d9,Nat.reduceAdd,Nat.reduceSub,Nat.reduceMul,Nat.reduceBEq,Nat.reduceLeDiff,Nat.reduceLT,Nat.reduceDiv,Nat.reduceMod])
   ·have he:(s.drop n).isEmpty=true:=by
     rw[List.isEmpty_iff,List.drop_eq_nil_iff]
     omega
    refine⟨.sl 3 R,?_⟩
    have hl2: ¬(n:Int)<(s.length:Int):=by omega
    simp only[he]
    simp only[hS,hT,Int.natCast_zero,Int.ofNat_zero]at e
    refine y0 true (fun _=>W82.2) W82.1 Tryz.func82 rfl rfl fun c ht hr=>?_;simp only[m7,List.length_cons,List.length_nil,Nat.reduceAdd,e7,and_true]at c;(try simp(maxSteps:=4000000) (disch:=first|assumption|omega) only[go_sem, *,i3,Option.isSome_some,e,a4i,u5,hl2,ht,↓c9,↓d9,Nat.reduceAdd,Nat.reduceSub,Nat.reduceMul,Nat.reduceBEq,Nat.reduceLeDiff,Nat.reduceLT,Nat.reduceDiv,Nat.reduceMod]);repeat' ((first|with_reducible first|refine o8 (fun hb=>?_) fun hb=>?_|refine o9 (fun hb=>?_) fun hb=>?_|refine p8 (fun hb=>?_) fun hb=>?_|refine p9 (fun hb=>?_) fun hb=>?_|refine q7 (fun hb=>?_) fun hb=>?_|refine g7 (fun hb=>?_) fun hb=>?_|rw[i0 rfl])<;>try simp(maxSteps:=4000000) (disch:=first|assumption|omega) only[go_sem, *,i3,Option.isSome_some,e,a4i,u5,hl2,ht,↓c9,↓d9,Nat.reduceAdd,Nat.reduceSub,Nat.reduceMul,Nat.reduceBEq,Nat.reduceLeDiff,Nat.reduceLT,Nat.reduceDiv,Nat.reduceMod])
 ·refine⟨.v (.slice none 0 0),?_⟩
  simp only[v7 hlen,Bool.false_and]
  refine y0 true (fun _=>W82.2) W82.1 Tryz.func82 rfl rfl fun c ht hr=>?_;simp only[m7,List.length_cons,List.length_nil,Nat.reduceAdd,e7,and_true]at c;(try simp(maxSteps:=4000000) (disch:=first|assumption|omega) only[go_sem, *,i3,Option.isSome_some,a4i,u5,↓c9,↓d9,Nat.reduceAdd,Nat.reduceSub,Nat.reduceMul,Nat.reduceBEq,Nat.reduceLeDiff,Nat.reduceLT,Nat.reduceDiv,Nat.reduceMod]);repeat' ((first|with_reducible first|refine o8 (fun hb=>?_) fun hb=>?_|refine o9 (fun hb=>?_) fun hb=>?_|refine p8 (fun hb=>?_) fun hb=>?_|refine p9 (fun hb=>?_) fun hb=>?_|refine q7 (fun hb=>?_) fun hb=>?_|refine g7 (fun hb=>?_) fun hb=>?_|rw[i0 rfl])<;>try simp(maxSteps:=4000000) (disch:=first|assumption|omega) only[go_sem, *,i3,Option.isSome_some,a4i,u5,↓c9,↓d9,Nat.reduceAdd,Nat.reduceSub,Nat.reduceMul,Nat.reduceBEq,Nat.reduceLeDiff,Nat.reduceLT,Nat.reduceDiv,Nat.reduceMod])
end
end Go.Vsi
