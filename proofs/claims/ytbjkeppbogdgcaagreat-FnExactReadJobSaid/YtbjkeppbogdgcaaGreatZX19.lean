/- What the functions of the program, of the reference and of the law do (a part of it). -/
import Derived.Test.YtbjkeppbogdgcaaGreatZX18
namespace Go.Vsi
open Go.Proofs
noncomputable section
set_option maxRecDepth 100000
set_option maxHeartbeats 4000000
set_option linter.unusedSimpArgs false
set_option linter.unusedVariables false
attribute [local go_sem] v6
theorem N6(s:List UInt8)(n:Nat)(hn:n<s.length):E7 (s.drop n)=(f8 (s[n].toNat:Int) 124||f8 (s[n].toNat:Int) 41):=by
 rw[List.drop_eq_getElem_cons hn]
 rfl
theorem e3v(s:List UInt8)(hs:s.length<=24)(n a:Nat)(R:List (List D))(hn: ¬n<s.length):g8 Tryz.prog T (c6 Tryz.prog T L0) 93 (cq Tryz.f93 [0,0,0,1,1,1]) ⟨[.one (.c (.ptr 0 0 0)),J,J,.one (.c (.d (.v (.int .i64 ((a:Int)))))),J,J,J,J,J,J,J,J,J,J,J,J,J,J,J,J,J,J,J,J,J,J,J,J,J,J,J,J,J,J,J,J,J,J,J,J,J,J,J,J,J,J,J,J,J,J,J,J,J,J,J,J,J,J,J,J,J,J,J,J,J,J,J,J,J,J,J,J,J,J,J,J,J,J,J,J,J,J,J,J,J,J,J,J,J,J,J,J,J,J],c7 [some (.var [.d (.v (.string (B (s)))),.d (.v (.int .i64 ((n:Int)))),.d (.v (.bool (false))),.arr 1 0 R.length]),some (.arr 3 R)],2,1⟩=some (.exit 0,⟨[J,J,J,.one (.c (.d (.v (.int .i64 ((a:Int)))))),J,J,J,J,J,J,J,J,J,J,J,J,J,J,J,J,J,J,J,J,J,J,J,J,J,J,J,J,J,J,J,J,J,J,J,J,J,J,J,J,J,J,J,J,J,J,J,J,J,J,J,J,J,J,J,J,J,J,J,J,J,J,J,J,J,J,J,J,J,J,J,J,J,J,J,J,J,J,J,J,J,J,J,J,J,J,J,J,J,J],c7 [some (.var [.d (.v (.string (B (s)))),.d (.v (.int .i64 ((n:Int)))),.d (.v (.bool (false))),.arr 1 0 R.length]),some (.arr 3 R)],2,1⟩):=by
 have hl2: ¬(n:Int)<(s.length:Int):=by omega
 exact lp T2
theorem e3w(s:List UInt8)(hs:s.length<=24)(n a:Nat)(R:List (List D))(hl:n<s.length)(hq:E7 (s.drop n)=true):g8 Tryz.prog T (c6 Tryz.prog T L0) 93 (cq Tryz.f93 [0,0,0,1,1,1]) ⟨[.one (.c (.ptr 0 0 0)),J,J,.one (.c (.d (.v (.int .i64 ((a:Int)))))),J,J,J,J,J,J,J,J,J,J,J,J,J,J,J,J,J,J,J,J,J,J,J,J,J,J,J,J,J,J,J,J,J,J,J,J,J,J,J,J,J,J,J,J,J,J,J,J,J,J,J,J,J,J,J,J,J,J,J,J,J,J,J,J,J,J,J,J,J,J,J,J,J,J,J,J,J,J,J,J,J,J,J,J,J,J,J,J,J,J],c7 [some (.var [.d (.v (.string (B (s)))),.d (.v (.int .i64 ((n:Int)))),.d (.v (.bool (false))),.arr 1 0 R.length]),some (.arr 3 R)],2,1⟩=some (.exit 0,⟨[J,J,J,.one (.c (.d (.v (.int .i64 ((a:Int)))))),J,J,J,J,J,J,J,J,J,J,J,J,J,J,J,J,J,J,J,J,J,J,J,J,J,J,J,J,J,J,J,J,J,J,J,J,J,J,J,J,J,J,J,J,J,J,J,J,J,J,J,J,J,J,J,J,J,J,J,J,J,J,J,J,J,J,J,J,J,J,J,J,J,J,J,J,J,J,J,J,J,J,J,J,J,J,J,J,J,J],c7 [some (.var [.d (.v (.string (B (s)))),.d (.v (.int .i64 ((n:Int)))),.d (.v (.bool (false))),.arr 1 0 R.length]),some (.arr 3 R)],2,1⟩):=by
 have hi:=E8 s n hl
 have hl2:(n:Int)<(s.length:Int):=by omega
 have hl3: ¬(s.length:Int)<=(n:Int):=by omega
 have hst:=N6 s n hl
 generalize s[n]=b at hi hst
 rw[hq]at hst
 have hq2:f8 (b.toNat:Int) 124=true∨(f8 (b.toNat:Int) 124=false∧f8 (b.toNat:Int) 41=true):=by
  cases hx:f8 (b.toNat:Int) 124 with
  |true=>exact .inl rfl
  |false=>exact .inr ⟨rfl,by simpa [hx]using hst.symm⟩
 clear hst hq
 rcases hq2 with z1|⟨z1,z2⟩
 all_goals
  exact lp T2
theorem e3x(s:List UInt8)(hs:s.length<=24)(n a n':Nat)(w:Int)(p:List D)(ps:List (List D))(hl:n<s.length)(hq:E7 (s.drop n)=false)(hlen:(p::ps).length<=59)(e:c6 Tryz.prog T L0 100 [.c (.ptr 0 0 0)] (hS s n false (p::ps))=some (.one (.c (.d (.v (.int .i64 (w))))),hS s n' true (p::ps))):g8 Tryz.prog T (c6 Tryz.prog T L0) 93 (cq Tryz.f93 [0,0,0,1,1,1]) ⟨[.one (.c (.ptr 0 0 0)),J,J,.one (.c (.d (.v (.int .i64 ((a:Int)))))),J,J,J,J,J,J,J,J,J,J,J,J,J,J,J,J,J,J,J,J,J,J,J,J,J,J,J,J,J,J,J,J,J,J,J,J,J,J,J,J,J,J,J,J,J,J,J,J,J,J,J,J,J,J,J,J,J,J,J,J,J,J,J,J,J,J,J,J,J,J,J,J,J,J,J,J,J,J,J,J,J,J,J,J,J,J,J,J,J,J],c7 [some (.var [.d (.v (.string (B (s)))),.d (.v (.int .i64 ((n:Int)))),.d (.v (.bool (false))),.arr 1 0 (p::ps).length]),some (.arr 3 (p::ps))],2,1⟩=some (.exit 0,⟨[J,J,J,.one (.c (.d (.v (.int .i64 (((ps.length+1:Nat):Int)))))),J,J,J,J,J,J,J,J,J,J,J,J,J,J,J,J,J,J,J,J,J,J,J,J,J,J,J,J,J,J,J,J,J,J,J,J,J,J,J,J,J,J,J,J,J,J,J,J,J,J,J,J,J,J,J,J,J,J,J,J,J,J,J,J,J,J,J,J,J,J,J,J,J,J,J,J,J,J,J,J,J,J,J,J,J,J,J,J,J,J],c7 [some (.var [.d (.v (.string (B (s)))),.d (.v (.int .i64 ((n':Int)))),.d (.v (.bool (true))),.arr 1 0 ((p::ps)++[row 5 [] [(a:Int),w]]).length]),some (.arr 3 ((p::ps)++[row 5 [] [(a:Int),w]]))],2,1⟩):=by
 have hi:=E8 s n hl
 have hl2:(n:Int)<(s.length:Int):=by omega
 have hl3: ¬(s.length:Int)<=(n:Int):=by omega
 have hst:=N6 s n hl
 generalize s[n]=b at hi hst
 rw[hq]at hst
 have z1:f8 (b.toNat:Int) 124=false:=by
  cases hx:f8 (b.toNat:Int) 124 with
  |true=>simp[hx]at hst
  |false=>rfl
 have z2:f8 (b.toNat:Int) 41=false:=by simpa [z1]using hst.symm
 clear hst hq
 have hp:=I4 5 [] [(a:Int),w] (by simp) s n' (p::ps) (ps.length+1) rfl ⟨by omega,by simp at hlen;omega⟩
 simp only[rI,List.map_cons,List.map_nil,List.length_cons,List.length_nil,Nat.zero_add,Nat.reduceAdd,hS]at hp e⊢
 refine D3 true (fun _=>T2.2) T2.1 rfl fun c hl=>?_;simp only[v8,C4,m7,List.length_cons,List.length_nil,Nat.reduceAdd,e7,and_true]at c hl;(try simp(maxSteps:=4000000) (disch:=first|assumption|omega) only[go_sem, *,i3,Option.isSome_some,hi,hl2,hl3,z1,z2,e,hp,n6,i1,List.length_append,↓c9,↓d9,Nat.reduceAdd,Nat.reduceSub,Nat.reduceMul,Nat.reduceBEq,Nat.reduceLeDiff,Nat.reduceLT,Nat.reduceDiv,Nat.reduceMod]);repeat' ((first|with_reducible first|refine o8 (fun hb=>?_) fun hb=>?_|refine o9 (fun hb=>?_) fun hb=>?_|refine p8 (fun hb=>?_) fun hb=>?_|refine p9 (fun hb=>?_) fun hb=>?_|refine q7 (fun hb=>?_) fun hb=>?_|refine g7 (fun hb=>?_) fun hb=>?_|rw[i0 rfl])<;>try simp(maxSteps:=4000000) (disch:=first|assumption|omega) only[go_sem, *,i3,Option.isSome_some,hi,hl2,hl3,z1,z2,e,hp,n6,i1,List.length_append,↓c9,↓d9,Nat.reduceAdd,Nat.reduceSub,Nat.reduceMul,Nat.reduceBEq,Nat.reduceLeDiff,Nat.reduceLT,Nat.reduceDiv,Nat.reduceMod])
theorem e3y(s:List UInt8)(hs:s.length<=24)(n a n':Nat)(w:Int)(p:List D)(ps R':List (List D))(hl:n<s.length)(hq:E7 (s.drop n)=false)(hlen:(p::ps).length<=59)(y1:1<=R'.length)(y2:R'.length<=99)(e:c6 Tryz.prog T L0 100 [.c (.ptr 0 0 0)] (hS s n false (p::ps))=some (.one (.c (.d (.v (.int .i64 (w))))),hT (p::ps) s n' true R')):g8 Tryz.prog T (c6 Tryz.prog T L0) 93 (cq Tryz.f93 [0,0,0,1,1,1]) ⟨[.one (.c (.ptr 0 0 0)),J,J,.one (.c (.d (.v (.int .i64 ((a:Int)))))),J,J,J,J,J,J,J,J,J,J,J,J,J,J,J,J,J,J,J,J,J,J,J,J,J,J,J,J,J,J,J,J,J,J,J,J,J,J,J,J,J,J,J,J,J,J,J,J,J,J,J,J,J,J,J,J,J,J,J,J,J,J,J,J,J,J,J,J,J,J,J,J,J,J,J,J,J,J,J,J,J,J,J,J,J,J,J,J,J,J],c7 [some (.var [.d (.v (.string (B (s)))),.d (.v (.int .i64 ((n:Int)))),.d (.v (.bool (false))),.arr 1 0 (p::ps).length]),some (.arr 3 (p::ps))],2,1⟩=some (.exit 0,⟨[J,J,J,.one (.c (.d (.v (.int .i64 (((R'.length:Nat):Int)))))),J,J,J,J,J,J,J,J,J,J,J,J,J,J,J,J,J,J,J,J,J,J,J,J,J,J,J,J,J,J,J,J,J,J,J,J,J,J,J,J,J,J,J,J,J,J,J,J,J,J,J,J,J,J,J,J,J,J,J,J,J,J,J,J,J,J,J,J,J,J,J,J,J,J,J,J,J,J,J,J,J,J,J,J,J,J,J,J,J,J],c7 [some (.var [.d (.v (.string (B (s)))),.d (.v (.int .i64 ((n':Int)))),.d (.v (.bool (true))),.arr 1 0 (R'++[row 5 [] [(a:Int),w]]).length]),some (.arr 3 (R'++[row 5 [] [(a:Int),w]]))],2,1⟩):=by
 have hi:=E8 s n hl
 have hl2:(n:Int)<(s.length:Int):=by omega
 have hl3: ¬(s.length:Int)<=(n:Int):=by omega
 have hst:=N6 s n hl
 generalize s[n]=b at hi hst
 rw[hq]at hst
 have z1:f8 (b.toNat:Int) 124=false:=by
  cases hx:f8 (b.toNat:Int) 124 with
  |true=>simp[hx]at hst
  |false=>rfl
 have z2:f8 (b.toNat:Int) 41=false:=by simpa [z1]using hst.symm
 clear hst hq
 have hp:=I4 5 [] [(a:Int),w] (by simp) s n' R' R'.length rfl ⟨by omega,by omega⟩
 simp only[rI,List.map_cons,List.map_nil,List.length_cons,List.length_nil,Nat.zero_add,Nat.reduceAdd,hS,hT]at hp e⊢
 refine D3 true (fun _=>T2.2) T2.1 rfl fun c hl=>?_;simp only[v8,C4,m7,List.length_cons,List.length_nil,Nat.reduceAdd,e7,and_true]at c hl;(try simp(maxSteps:=4000000) (disch:=first|assumption|omega) only[go_sem, *,i3,Option.isSome_some,hi,hl2,hl3,z1,z2,e,hp,n6,i1,List.length_append,↓c9,↓d9,Nat.reduceAdd,Nat.reduceSub,Nat.reduceMul,Nat.reduceBEq,Nat.reduceLeDiff,Nat.reduceLT,Nat.reduceDiv,Nat.reduceMod]);repeat' ((first|with_reducible first|refine o8 (fun hb=>?_) fun hb=>?_|refine o9 (fun hb=>?_) fun hb=>?_|refine p8 (fun hb=>?_) fun hb=>?_|refine p9 (fun hb=>?_) fun hb=>?_|refine q7 (fun hb=>?_) fun hb=>?_|refine g7 (fun hb=>?_) fun hb=>?_|rw[i0 rfl])<;>try simp(maxSteps:=4000000) (disch:=first|assumption|omega) only[go_sem, *,i3,Option.isSome_some,hi,hl2,hl3,z1,z2,e,hp,n6,i1,List.length_append,↓c9,↓d9,Nat.reduceAdd,Nat.reduceSub,Nat.reduceMul,Nat.reduceBEq,Nat.reduceLeDiff,Nat.reduceLT,Nat.reduceDiv,Nat.reduceMod])
theorem c7k(s:List UInt8)(hs:s.length<=24)(n a n2 a2:Nat)(p:List D)(ps R2:List (List D))(hl:n<s.length)(hq:E7 (s.drop n)=false)(hlen:(p::ps).length<=59)(h2:1<=R2.length)(h3:R2.length<=59)(e:c6 Tryz.prog T L0 100 [.c (.ptr 0 0 0)] (hS s n false (p::ps))=some (.one (.c (.d (.v (.int .i64 ((a2:Int)))))),hT (p::ps) s n2 false R2))(rhs:Option (Ex×St))(q5:g8 Tryz.prog T (c6 Tryz.prog T L0) 93 (cq Tryz.f93 [0,0,0,1,1,1]) ⟨[.one (.c (.ptr 0 0 0)),J,J,.one (.c (.d (.v (.int .i64 (((R2.length:Nat):Int)))))),J,J,J,J,J,J,J,J,J,J,J,J,J,J,J,J,J,J,J,J,J,J,J,J,J,J,J,J,J,J,J,J,J,J,J,J,J,J,J,J,J,J,J,J,J,J,J,J,J,J,J,J,J,J,J,J,J,J,J,J,J,J,J,J,J,J,J,J,J,J,J,J,J,J,J,J,J,J,J,J,J,J,J,J,J,J,J,J,J,J],c7 [some (.var [.d (.v (.string (B (s)))),.d (.v (.int .i64 ((n2:Int)))),.d (.v (.bool (false))),.arr 1 0 (R2++[row 5 [] [(a:Int),(a2:Int)]]).length]),some (.arr 3 (R2++[row 5 [] [(a:Int),(a2:Int)]]))],2,1⟩=rhs):g8 Tryz.prog T (c6 Tryz.prog T L0) 93 (cq Tryz.f93 [0,0,0,1,1,1]) ⟨[.one (.c (.ptr 0 0 0)),J,J,.one (.c (.d (.v (.int .i64 ((a:Int)))))),J,J,J,J,J,J,J,J,J,J,J,J,J,J,J,J,J,J,J,J,J,J,J,J,J,J,J,J,J,J,J,J,J,J,J,J,J,J,J,J,J,J,J,J,J,J,J,J,J,J,J,J,J,J,J,J,J,J,J,J,J,J,J,J,J,J,J,J,J,J,J,J,J,J,J,J,J,J,J,J,J,J,J,J,J,J,J,J,J,J],c7 [some (.var [.d (.v (.string (B (s)))),.d (.v (.int .i64 ((n:Int)))),.d (.v (.bool (false))),.arr 1 0 (p::ps).length]),some (.arr 3 (p::ps))],2,1⟩=rhs:=by
 have hi:=E8 s n hl
 have hl2:(n:Int)<(s.length:Int):=by omega
 have hl3: ¬(s.length:Int)<=(n:Int):=by omega
 have hst:=N6 s n hl
 generalize s[n]=b at hi hst
 rw[hq]at hst
 have z1:f8 (b.toNat:Int) 124=false:=by
  cases hx:f8 (b.toNat:Int) 124 with
  |true=>simp[hx]at hst
  |false=>rfl
 have z2:f8 (b.toNat:Int) 41=false:=by simpa [z1]using hst.symm
 clear hst hq
 have hp:=a2f 5 [] [(a:Int),(a2:Int)] (by simp) s n2 false R2 R2.length rfl ⟨by omega,by omega⟩
 simp only[rI,List.map_cons,List.map_nil,List.length_cons,List.length_nil,Nat.zero_add,Nat.reduceAdd,hS,hT,List.length_append]at hp e q5⊢
 rw[<-q5]
 clear q5
 refine D3 true (fun _=>T2.2) T2.1 rfl fun c hl=>?_;simp only[v8,C4,m7,List.length_cons,List.length_nil,Nat.reduceAdd,e7,and_true]at c hl;(try simp(maxSteps:=4000000) (disch:=first|assumption|omega) only[go_sem, *,i3,Option.isSome_some,hi,hl2,hl3,z1,z2,e,hp,n6,List.length_append,↓c9,↓d9,Nat.reduceAdd,Nat.reduceSub,Nat.reduceMul,Nat.reduceBEq,Nat.reduceLeDiff,Nat.reduceLT,Nat.reduceDiv,Nat.reduceMod]);repeat' ((first|with_reducible first|refine o8 (fun hb=>?_) fun hb=>?_|refine o9 (fun hb=>?_) fun hb=>?_|refine p8 (fun hb=>?_) fun hb=>?_|refine p9 (fun hb=>?_) fun hb=>?_|refine q7 (fun hb=>?_) fun hb=>?_|refine g7 (fun hb=>?_) fun hb=>?_|rw[i0 rfl])<;>try simp(maxSteps:=4000000) (disch:=first|assumption|omega) only[go_sem, *,i3,Option.isSome_some,hi,hl2,hl3,z1,z2,e,hp,n6,List.length_append,↓c9,↓d9,Nat.reduceAdd,Nat.reduceSub,Nat.reduceMul,Nat.reduceBEq,Nat.reduceLeDiff,Nat.reduceLT,Nat.reduceDiv,Nat.reduceMod])
theorem b7i(s:List UInt8)(hs:s.length<=24): ∀(k:Nat),(∀j,j<k->Q7 100 G8 0 4 j)-> ∀(n a:Nat)(R:List (List D)),n<=s.length->6*(s.length-n)+5<=k->1<=R.length->R.length+2*(s.length-n)<=59->
  match O5 k (s.drop n)with
  |some rest=> ∃(a' n':Nat)(R':List (List D)),n'<=s.length∧rest=s.drop n'∧(R.length<=R'.length∧R'.length+2*(s.length-n')<=R.length+2*(s.length-n))∧(s.length-n'<=s.length-n)∧
   g8 Tryz.prog T (c6 Tryz.prog T L0) 93 (cq Tryz.f93 [0,0,0,1,1,1]) ⟨[.one (.c (.ptr 0 0 0)),J,J,.one (.c (.d (.v (.int .i64 ((a:Int)))))),J,J,J,J,J,J,J,J,J,J,J,J,J,J,J,J,J,J,J,J,J,J,J,J,J,J,J,J,J,J,J,J,J,J,J,J,J,J,J,J,J,J,J,J,J,J,J,J,J,J,J,J,J,J,J,J,J,J,J,J,J,J,J,J,J,J,J,J,J,J,J,J,J,J,J,J,J,J,J,J,J,J,J,J,J,J,J,J,J,J],c7 [some (.var [.d (.v (.string (B (s)))),.d (.v (.int .i64 ((n:Int)))),.d (.v (.bool (false))),.arr 1 0 R.length]),some (.arr 3 R)],2,1⟩=some (.exit 0,⟨[J,J,J,.one (.c (.d (.v (.int .i64 ((a':Int)))))),J,J,J,J,J,J,J,J,J,J,J,J,J,J,J,J,J,J,J,J,J,J,J,J,J,J,J,J,J,J,J,J,J,J,J,J,J,J,J,J,J,J,J,J,J,J,J,J,J,J,J,J,J,J,J,J,J,J,J,J,J,J,J,J,J,J,J,J,J,J,J,J,J,J,J,J,J,J,J,J,J,J,J,J,J,J,J,J,J,J],c7 [some (.var [.d (.v (.string (B (s)))),.d (.v (.int .i64 ((n':Int)))),.d (.v (.bool (false))),.arr 1 0 R'.length]),some (.arr 3 R')],2,1⟩)
  |none=> ∃(w:Int)(n':Nat)(R':List (List D)),1<=R'.length∧R'.length<=R.length+2*(s.length-n)+2∧
   g8 Tryz.prog T (c6 Tryz.prog T L0) 93 (cq Tryz.f93 [0,0,0,1,1,1]) ⟨[.one (.c (.ptr 0 0 0)),J,J,.one (.c (.d (.v (.int .i64 ((a:Int)))))),J,J,J,J,J,J,J,J,J,J,J,J,J,J,J,J,J,J,J,J,J,J,J,J,J,J,J,J,J,J,J,J,J,J,J,J,J,J,J,J,J,J,J,J,J,J,J,J,J,J,J,J,J,J,J,J,J,J,J,J,J,J,J,J,J,J,J,J,J,J,J,J,J,J,J,J,J,J,J,J,J,J,J,J,J,J,J,J,J,J],c7 [some (.var [.d (.v (.string (B (s)))),.d (.v (.int .i64 ((n:Int)))),.d (.v (.bool (false))),.arr 1 0 R.length]),some (.arr 3 R)],2,1⟩=some (.exit 0,⟨[J,J,J,.one (.c (.d (.v (.int .i64 (w))))),J,J,J,J,J,J,J,J,J,J,J,J,J,J,J,J,J,J,J,J,J,J,J,J,J,J,J,J,J,J,J,J,J,J,J,J,J,J,J,J,J,J,J,J,J,J,J,J,J,J,J,J,J,J,J,J,J,J,J,J,J,J,J,J,J,J,J,J,J,J,J,J,J,J,J,J,J,J,J,J,J,J,J,J,J,J,J,J,J,J],c7 [some (.var [.d (.v (.string (B (s)))),.d (.v (.int .i64 ((n':Int)))),.d (.v (.bool (true))),.arr 1 0 R'.length]),some (.arr 3 R')],2,1⟩)
 |0,_,n,a,R,_,hk,_,_=>by omega
 |k+1,hT',n,a,R,hn,hk,hR,hlen=>by
  simp only[O5]
  by_cases hl:n<s.length
  ·have hb:=hT' k (by omega) s n R hn (by omega) (by omega) hs
   cases hq:E7 (s.drop n)with
   |true=>exact⟨a,n,R,hn,rfl,⟨by omega,by omega⟩,by omega,e3w s hs n a R hl hq⟩
   |false=>
    obtain⟨p,ps,rfl⟩: ∃p ps,R=p::ps:=by
     cases R with
     |nil=>simp at hR
     |cons p ps=>exact⟨p,ps,rfl⟩
    simp only
    cases hm:G8 k (s.drop n)with
    |none=>
     rw[hm]at hb
     obtain⟨w,bs,e,hbs⟩:=hb
     rcases hbs with⟨n',rfl⟩|⟨n',R',y1,y2,rfl⟩
     ·exact⟨((ps.length+1:Nat):Int),n',(p::ps)++[row 5 [] [(a:Int),w]],by simp,by simp;omega,e3x s hs n a n' w p ps hl hq (by omega) e⟩
     ·exact⟨((R'.length:Nat):Int),n',R'++[row 5 [] [(a:Int),w]],by simp,by have e1:(p::ps).length=ps.length+1:=rfl;simp at y2⊢;omega,e3y s hs n a n' w p ps R' hl hq (by omega) y1 (by omega) e⟩
    |some r=>
     rw[hm]at hb
     obtain⟨a2,n2,R2,e,g1,g2,⟨g3,g4⟩,g5⟩:=hb
     subst g2
     have ih:=b7i s hs k (fun j hj=>hT' j (by omega)) n2 R2.length (R2++[row 5 [] [(a:Int),(a2:Int)]]) g1 (by omega) (by simp) (by simp;omega)
     clear hT' hm
     simp only
     cases hml:O5 k (s.drop n2)with
     |some rest=>
      rw[hml]at ih
      obtain⟨a',n',R',q1,q2,q3,q4,q5⟩:=ih
      exact⟨a',n',R',q1,q2,by have e1:(p::ps).length=ps.length+1:=rfl;simp at q3 g4⊢;omega,by omega,c7k s hs n a n2 a2 p ps R2 hl hq (by omega) (by omega) (by omega) e _ q5⟩
     |none=>
      rw[hml]at ih
      obtain⟨w,n',R',q1,q2,q5⟩:=ih
      exact⟨w,n',R',q1,by have e1:(p::ps).length=ps.length+1:=rfl;simp at q2 g4⊢;omega,c7k s hs n a n2 a2 p ps R2 hl hq (by omega) (by omega) (by omega) e _ q5⟩
  ·have hd:s.drop n=[]:=List.drop_eq_nil_of_le (by omega)
   rw[hd]
   simp only[show E7 ([]:List UInt8)=true from rfl]
   exact⟨a,n,R,hn,hd.symm,⟨by omega,by omega⟩,by omega,e3v s hs n a R hl⟩
theorem e3z(s:List UInt8)(hs:s.length<=24)(n a:Nat)(R:List (List D))(hn: ¬n<s.length):g8 Tryz.prog T (c6 Tryz.prog T L0) 93 (cq Tryz.f93 [0,0,0,1,1,1]) ⟨[.one (.c (.ptr 0 0 0)),J,J,.one (.c (.d (.v (.int .i64 ((a:Int)))))),J,J,J,J,J,J,J,J,J,J,J,J,J,J,J,J,J,J,J,J,J,J,J,J,J,J,J,J,J,J,J,J,J,J,J,J,J,J,J,J,J,J,J,J,J,J,J,J,J,J,J,J,J,J,J,J,J,J,J,J,J,J,J,J,J,J,J,J,J,J,J,J,J,J,J,J,J,J,J,J,J,J,J,J,J,J,J,J,J,J],c7 [some (.var [.d (.v (.string (B (s)))),.d (.v (.int .i64 ((n:Int)))),.d (.v (.bool (false))),.arr 2 0 R.length]),none,some (.arr 3 R)],3,2⟩=some (.exit 0,⟨[J,J,J,.one (.c (.d (.v (.int .i64 ((a:Int)))))),J,J,J,J,J,J,J,J,J,J,J,J,J,J,J,J,J,J,J,J,J,J,J,J,J,J,J,J,J,J,J,J,J,J,J,J,J,J,J,J,J,J,J,J,J,J,J,J,J,J,J,J,J,J,J,J,J,J,J,J,J,J,J,J,J,J,J,J,J,J,J,J,J,J,J,J,J,J,J,J,J,J,J,J,J,J,J,J,J,J],c7 [some (.var [.d (.v (.string (B (s)))),.d (.v (.int .i64 ((n:Int)))),.d (.v (.bool (false))),.arr 2 0 R.length]),none,some (.arr 3 R)],3,2⟩):=by
 have hl2: ¬(n:Int)<(s.length:Int):=by omega
 exact lp T2
theorem e4a(s:List UInt8)(hs:s.length<=24)(n a:Nat)(R:List (List D))(hl:n<s.length)(hq:E7 (s.drop n)=true):g8 Tryz.prog T (c6 Tryz.prog T L0) 93 (cq Tryz.f93 [0,0,0,1,1,1]) ⟨[.one (.c (.ptr 0 0 0)),J,J,.one (.c (.d (.v (.int .i64 ((a:Int)))))),J,J,J,J,J,J,J,J,J,J,J,J,J,J,J,J,J,J,J,J,J,J,J,J,J,J,J,J,J,J,J,J,J,J,J,J,J,J,J,J,J,J,J,J,J,J,J,J,J,J,J,J,J,J,J,J,J,J,J,J,J,J,J,J,J,J,J,J,J,J,J,J,J,J,J,J,J,J,J,J,J,J,J,J,J,J,J,J,J,J],c7 [some (.var [.d (.v (.string (B (s)))),.d (.v (.int .i64 ((n:Int)))),.d (.v (.bool (false))),.arr 2 0 R.length]),none,some (.arr 3 R)],3,2⟩=some (.exit 0,⟨[J,J,J,.one (.c (.d (.v (.int .i64 ((a:Int)))))),J,J,J,J,J,J,J,J,J,J,J,J,J,J,J,J,J,J,J,J,J,J,J,J,J,J,J,J,J,J,J,J,J,J,J,J,J,J,J,J,J,J,J,J,J,J,J,J,J,J,J,J,J,J,J,J,J,J,J,J,J,J,J,J,J,J,J,J,J,J,J,J,J,J,J,J,J,J,J,J,J,J,J,J,J,J,J,J,J,J],c7 [some (.var [.d (.v (.string (B (s)))),.d (.v (.int .i64 ((n:Int)))),.d (.v (.bool (false))),.arr 2 0 R.length]),none,some (.arr 3 R)],3,2⟩):=by
 have hi:=E8 s n hl
 have hl2:(n:Int)<(s.length:Int):=by omega
 have hl3: ¬(s.length:Int)<=(n:Int):=by omega
 have hst:=N6 s n hl
 generalize s[n]=b at hi hst
 rw[hq]at hst
 have hq2:f8 (b.toNat:Int) 124=true∨(f8 (b.toNat:Int) 124=false∧f8 (b.toNat:Int) 41=true):=by
  cases hx:f8 (b.toNat:Int) 124 with
  |true=>exact .inl rfl
  |false=>exact .inr ⟨rfl,by simpa [hx]using hst.symm⟩
 clear hst hq
 rcases hq2 with z1|⟨z1,z2⟩
 all_goals
  exact lp T2
theorem e4b(s:List UInt8)(hs:s.length<=24)(n a n':Nat)(w:Int)(p:List D)(ps:List (List D))(hl:n<s.length)(hq:E7 (s.drop n)=false)(hlen:(p::ps).length<=59)(e:c6 Tryz.prog T L0 100 [.c (.ptr 0 0 0)] (hS s n false (p::ps))=some (.one (.c (.d (.v (.int .i64 (w))))),hS s n' true (p::ps))):g8 Tryz.prog T (c6 Tryz.prog T L0) 93 (cq Tryz.f93 [0,0,0,1,1,1]) ⟨[.one (.c (.ptr 0 0 0)),J,J,.one (.c (.d (.v (.int .i64 ((a:Int)))))),J,J,J,J,J,J,J,J,J,J,J,J,J,J,J,J,J,J,J,J,J,J,J,J,J,J,J,J,J,J,J,J,J,J,J,J,J,J,J,J,J,J,J,J,J,J,J,J,J,J,J,J,J,J,J,J,J,J,J,J,J,J,J,J,J,J,J,J,J,J,J,J,J,J,J,J,J,J,J,J,J,J,J,J,J,J,J,J,J,J],c7 [some (.var [.d (.v (.string (B (s)))),.d (.v (.int .i64 ((n:Int)))),.d (.v (.bool (false))),.arr 2 0 (p::ps).length]),none,some (.arr 3 (p::ps))],3,2⟩=some (.exit 0,⟨[J,J,J,.one (.c (.d (.v (.int .i64 (((ps.length+1:Nat):Int)))))),J,J,J,J,J,J,J,J,J,J,J,J,J,J,J,J,J,J,J,J,J,J,J,J,J,J,J,J,J,J,J,J,J,J,J,J,J,J,J,J,J,J,J,J,J,J,J,J,J,J,J,J,J,J,J,J,J,J,J,J,J,J,J,J,J,J,J,J,J,J,J,J,J,J,J,J,J,J,J,J,J,J,J,J,J,J,J,J,J,J],c7 [some (.var [.d (.v (.string (B (s)))),.d (.v (.int .i64 ((n':Int)))),.d (.v (.bool (true))),.arr 2 0 ((p::ps)++[row 5 [] [(a:Int),w]]).length]),none,some (.arr 3 ((p::ps)++[row 5 [] [(a:Int),w]]))],3,2⟩):=by
 have hi:=E8 s n hl
 have hl2:(n:Int)<(s.length:Int):=by omega
 have hl3: ¬(s.length:Int)<=(n:Int):=by omega
 have hst:=N6 s n hl
 generalize s[n]=b at hi hst
 rw[hq]at hst
 have z1:f8 (b.toNat:Int) 124=false:=by
  cases hx:f8 (b.toNat:Int) 124 with
  |true=>simp[hx]at hst
  |false=>rfl
 have z2:f8 (b.toNat:Int) 41=false:=by simpa [z1]using hst.symm
 clear hst hq
 have hp:=I4 5 [] [(a:Int),w] (by simp) s n' (p::ps) (ps.length+1) rfl ⟨by omega,by simp at hlen;omega⟩
 simp only[rI,List.map_cons,List.map_nil,List.length_cons,List.length_nil,Nat.zero_add,Nat.reduceAdd,hS]at hp e⊢
 refine D3 true (fun _=>T2.2) T2.1 rfl fun c hl=>?_;simp only[v8,C4,m7,List.length_cons,List.length_nil,Nat.reduceAdd,e7,and_true]at c hl;(try simp(maxSteps:=4000000) (disch:=first|assumption|omega) only[go_sem, *,i3,Option.isSome_some,hi,hl2,hl3,z1,z2,e,hp,n6,i1,List.length_append,↓c9,↓d9,Nat.reduceAdd,Nat.reduceSub,Nat.reduceMul,Nat.reduceBEq,Nat.reduceLeDiff,Nat.reduceLT,Nat.reduceDiv,Nat.reduceMod]);repeat' ((first|with_reducible first|refine o8 (fun hb=>?_) fun hb=>?_|refine o9 (fun hb=>?_) fun hb=>?_|refine p8 (fun hb=>?_) fun hb=>?_|refine p9 (fun hb=>?_) fun hb=>?_|refine q7 (fun hb=>?_) fun hb=>?_|refine g7 (fun hb=>?_) fun hb=>?_|rw[i0 rfl])<;>try simp(maxSteps:=4000000) (disch:=first|assumption|omega) only[go_sem, *,i3,Option.isSome_some,hi,hl2,hl3,z1,z2,e,hp,n6,i1,List.length_append,↓c9,↓d9,Nat.reduceAdd,Nat.reduceSub,Nat.reduceMul,Nat.reduceBEq,Nat.reduceLeDiff,Nat.reduceLT,Nat.reduceDiv,Nat.reduceMod])
theorem e4c(s:List UInt8)(hs:s.length<=24)(n a n':Nat)(w:Int)(p:List D)(ps R':List (List D))(hl:n<s.length)(hq:E7 (s.drop n)=false)(hlen:(p::ps).length<=59)(y1:1<=R'.length)(y2:R'.length<=99)(e:c6 Tryz.prog T L0 100 [.c (.ptr 0 0 0)] (hS s n false (p::ps))=some (.one (.c (.d (.v (.int .i64 (w))))),hT (p::ps) s n' true R')):g8 Tryz.prog T (c6 Tryz.prog T L0) 93 (cq Tryz.f93 [0,0,0,1,1,1]) ⟨[.one (.c (.ptr 0 0 0)),J,J,.one (.c (.d (.v (.int .i64 ((a:Int)))))),J,J,J,J,J,J,J,J,J,J,J,J,J,J,J,J,J,J,J,J,J,J,J,J,J,J,J,J,J,J,J,J,J,J,J,J,J,J,J,J,J,J,J,J,J,J,J,J,J,J,J,J,J,J,J,J,J,J,J,J,J,J,J,J,J,J,J,J,J,J,J,J,J,J,J,J,J,J,J,J,J,J,J,J,J,J,J,J,J,J],c7 [some (.var [.d (.v (.string (B (s)))),.d (.v (.int .i64 ((n:Int)))),.d (.v (.bool (false))),.arr 2 0 (p::ps).length]),none,some (.arr 3 (p::ps))],3,2⟩=some (.exit 0,⟨[J,J,J,.one (.c (.d (.v (.int .i64 (((R'.length:Nat):Int)))))),J,J,J,J,J,J,J,J,J,J,J,J,J,J,J,J,J,J,J,J,J,J,J,J,J,J,J,J,J,J,J,J,J,J,J,J,J,J,J,J,J,J,J,J,J,J,J,J,J,J,J,J,J,J,J,J,J,J,J,J,J,J,J,J,J,J,J,J,J,J,J,J,J,J,J,J,J,J,J,J,J,J,J,J,J,J,J,J,J,J],c7 [some (.var [.d (.v (.string (B (s)))),.d (.v (.int .i64 ((n':Int)))),.d (.v (.bool (true))),.arr 2 0 (R'++[row 5 [] [(a:Int),w]]).length]),none,some (.arr 3 (R'++[row 5 [] [(a:Int),w]]))],3,2⟩):=by
 have hi:=E8 s n hl
 have hl2:(n:Int)<(s.length:Int):=by omega
 have hl3: ¬(s.length:Int)<=(n:Int):=by omega
 have hst:=N6 s n hl
 generalize s[n]=b at hi hst
 rw[hq]at hst
 have z1:f8 (b.toNat:Int) 124=false:=by
  cases hx:f8 (b.toNat:Int) 124 with
  |true=>simp[hx]at hst
  |false=>rfl
 have z2:f8 (b.toNat:Int) 41=false:=by simpa [z1]using hst.symm
 clear hst hq
 have hp:=I4 5 [] [(a:Int),w] (by simp) s n' R' R'.length rfl ⟨by omega,by omega⟩
 simp only[rI,List.map_cons,List.map_nil,List.length_cons,List.length_nil,Nat.zero_add,Nat.reduceAdd,hS,hT]at hp e⊢
 refine D3 true (fun _=>T2.2) T2.1 rfl fun c hl=>?_;simp only[v8,C4,m7,List.length_cons,List.length_nil,Nat.reduceAdd,e7,and_true]at c hl;(try simp(maxSteps:=4000000) (disch:=first|assumption|omega) only[go_sem, *,i3,Option.isSome_some,hi,hl2,hl3,z1,z2,e,hp,n6,i1,List.length_append,↓c9,↓d9,Nat.reduceAdd,Nat.reduceSub,Nat.reduceMul,Nat.reduceBEq,Nat.reduceLeDiff,Nat.reduceLT,Nat.reduceDiv,Nat.reduceMod]);repeat' ((first|with_reducible first|refine o8 (fun hb=>?_) fun hb=>?_|refine o9 (fun hb=>?_) fun hb=>?_|refine p8 (fun hb=>?_) fun hb=>?_|refine p9 (fun hb=>?_) fun hb=>?_|refine q7 (fun hb=>?_) fun hb=>?_|refine g7 (fun hb=>?_) fun hb=>?_|rw[i0 rfl])<;>try simp(maxSteps:=4000000) (disch:=first|assumption|omega) only[go_sem, *,i3,Option.isSome_some,hi,hl2,hl3,z1,z2,e,hp,n6,i1,List.length_append,↓c9,↓d9,Nat.reduceAdd,Nat.reduceSub,Nat.reduceMul,Nat.reduceBEq,Nat.reduceLeDiff,Nat.reduceLT,Nat.reduceDiv,Nat.reduceMod])
theorem c7l(s:List UInt8)(hs:s.length<=24)(n a n2 a2:Nat)(p:List D)(ps R2:List (List D))(hl:n<s.length)(hq:E7 (s.drop n)=false)(hlen:(p::ps).length<=59)(h2:1<=R2.length)(h3:R2.length<=59)(e:c6 Tryz.prog T L0 100 [.c (.ptr 0 0 0)] (hS s n false (p::ps))=some (.one (.c (.d (.v (.int .i64 ((a2:Int)))))),hT (p::ps) s n2 false R2))(rhs:Option (Ex×St))(q5:g8 Tryz.prog T (c6 Tryz.prog T L0) 93 (cq Tryz.f93 [0,0,0,1,1,1]) ⟨[.one (.c (.ptr 0 0 0)),J,J,.one (.c (.d (.v (.int .i64 (((R2.length:Nat):Int)))))),J,J,J,J,J,J,J,J,J,J,J,J,J,J,J,J,J,J,J,J,J,J,J,J,J,J,J,J,J,J,J,J,J,J,J,J,J,J,J,J,J,J,J,J,J,J,J,J,J,J,J,J,J,J,J,J,J,J,J,J,J,J,J,J,J,J,J,J,J,J,J,J,J,J,J,J,J,J,J,J,J,J,J,J,J,J,J,J,J,J],c7 [some (.var [.d (.v (.string (B (s)))),.d (.v (.int .i64 ((n2:Int)))),.d (.v (.bool (false))),.arr 2 0 (R2++[row 5 [] [(a:Int),(a2:Int)]]).length]),none,some (.arr 3 (R2++[row 5 [] [(a:Int),(a2:Int)]]))],3,2⟩=rhs):g8 Tryz.prog T (c6 Tryz.prog T L0) 93 (cq Tryz.f93 [0,0,0,1,1,1]) ⟨[.one (.c (.ptr 0 0 0)),J,J,.one (.c (.d (.v (.int .i64 ((a:Int)))))),J,J,J,J,J,J,J,J,J,J,J,J,J,J,J,J,J,J,J,J,J,J,J,J,J,J,J,J,J,J,J,J,J,J,J,J,J,J,J,J,J,J,J,J,J,J,J,J,J,J,J,J,J,J,J,J,J,J,J,J,J,J,J,J,J,J,J,J,J,J,J,J,J,J,J,J,J,J,J,J,J,J,J,J,J,J,J,J,J,J],c7 [some (.var [.d (.v (.string (B (s)))),.d (.v (.int .i64 ((n:Int)))),.d (.v (.bool (false))),.arr 2 0 (p::ps).length]),none,some (.arr 3 (p::ps))],3,2⟩=rhs:=by
 have hi:=E8 s n hl
 have hl2:(n:Int)<(s.length:Int):=by omega
 have hl3: ¬(s.length:Int)<=(n:Int):=by omega
 have hst:=N6 s n hl
 generalize s[n]=b at hi hst
 rw[hq]at hst
 have z1:f8 (b.toNat:Int) 124=false:=by
  cases hx:f8 (b.toNat:Int) 124 with
  |true=>simp[hx]at hst
  |false=>rfl
 have z2:f8 (b.toNat:Int) 41=false:=by simpa [z1]using hst.symm
 clear hst hq
 have hp:=a2f 5 [] [(a:Int),(a2:Int)] (by simp) s n2 false R2 R2.length rfl ⟨by omega,by omega⟩
 simp only[rI,List.map_cons,List.map_nil,List.length_cons,List.length_nil,Nat.zero_add,Nat.reduceAdd,hS,hT,List.length_append]at hp e q5⊢
 rw[<-q5]
 clear q5
 refine D3 true (fun _=>T2.2) T2.1 rfl fun c hl=>?_;simp only[v8,C4,m7,List.length_cons,List.length_nil,Nat.reduceAdd,e7,and_true]at c hl;(try simp(maxSteps:=4000000) (disch:=first|assumption|omega) only[go_sem, *,i3,Option.isSome_some,hi,hl2,hl3,z1,z2,e,hp,n6,List.length_append,↓c9,↓d9,Nat.reduceAdd,Nat.reduceSub,Nat.reduceMul,Nat.reduceBEq,Nat.reduceLeDiff,Nat.reduceLT,Nat.reduceDiv,Nat.reduceMod]);repeat' ((first|with_reducible first|refine o8 (fun hb=>?_) fun hb=>?_|refine o9 (fun hb=>?_) fun hb=>?_|refine p8 (fun hb=>?_) fun hb=>?_|refine p9 (fun hb=>?_) fun hb=>?_|refine q7 (fun hb=>?_) fun hb=>?_|refine g7 (fun hb=>?_) fun hb=>?_|rw[i0 rfl])<;>try simp(maxSteps:=4000000) (disch:=first|assumption|omega) only[go_sem, *,i3,Option.isSome_some,hi,hl2,hl3,z1,z2,e,hp,n6,List.length_append,↓c9,↓d9,Nat.reduceAdd,Nat.reduceSub,Nat.reduceMul,Nat.reduceBEq,Nat.reduceLeDiff,Nat.reduceLT,Nat.reduceDiv,Nat.reduceMod])
theorem b7j(s:List UInt8)(hs:s.length<=24): ∀(k:Nat),(∀j,j<k->Q7 100 G8 0 4 j)-> ∀(n a:Nat)(R:List (List D)),n<=s.length->6*(s.length-n)+5<=k->1<=R.length->R.length+2*(s.length-n)<=59->
  match O5 k (s.drop n)with
  |some rest=> ∃(a' n':Nat)(R':List (List D)),n'<=s.length∧rest=s.drop n'∧(R.length<=R'.length∧R'.length+2*(s.length-n')<=R.length+2*(s.length-n))∧(s.length-n'<=s.length-n)∧
   g8 Tryz.prog T (c6 Tryz.prog T L0) 93 (cq Tryz.f93 [0,0,0,1,1,1]) ⟨[.one (.c (.ptr 0 0 0)),J,J,.one (.c (.d (.v (.int .i64 ((a:Int)))))),J,J,J,J,J,J,J,J,J,J,J,J,J,J,J,J,J,J,J,J,J,J,J,J,J,J,J,J,J,J,J,J,J,J,J,J,J,J,J,J,J,J,J,J,J,J,J,J,J,J,J,J,J,J,J,J,J,J,J,J,J,J,J,J,J,J,J,J,J,J,J,J,J,J,J,J,J,J,J,J,J,J,J,J,J,J,J,J,J,J],c7 [some (.var [.d (.v (.string (B (s)))),.d (.v (.int .i64 ((n:Int)))),.d (.v (.bool (false))),.arr 2 0 R.length]),none,some (.arr 3 R)],3,2⟩=some (.exit 0,⟨[J,J,J,.one (.c (.d (.v (.int .i64 ((a':Int)))))),J,J,J,J,J,J,J,J,J,J,J,J,J,J,J,J,J,J,J,J,J,J,J,J,J,J,J,J,J,J,J,J,J,J,J,J,J,J,J,J,J,J,J,J,J,J,J,J,J,J,J,J,J,J,J,J,J,J,J,J,J,J,J,J,J,J,J,J,J,J,J,J,J,J,J,J,J,J,J,J,J,J,J,J,J,J,J,J,J,J],c7 [some (.var [.d (.v (.string (B (s)))),.d (.v (.int .i64 ((n':Int)))),.d (.v (.bool (false))),.arr 2 0 R'.length]),none,some (.arr 3 R')],3,2⟩)
  |none=> ∃(w:Int)(n':Nat)(R':List (List D)),1<=R'.length∧R'.length<=R.length+2*(s.length-n)+2∧
   g8 Tryz.prog T (c6 Tryz.prog T L0) 93 (cq Tryz.f93 [0,0,0,1,1,1]) ⟨[.one (.c (.ptr 0 0 0)),J,J,.one (.c (.d (.v (.int .i64 ((a:Int)))))),J,J,J,J,J,J,J,J,J,J,J,J,J,J,J,J,J,J,J,J,J,J,J,J,J,J,J,J,J,J,J,J,J,J,J,J,J,J,J,J,J,J,J,J,J,J,J,J,J,J,J,J,J,J,J,J,J,J,J,J,J,J,J,J,J,J,J,J,J,J,J,J,J,J,J,J,J,J,J,J,J,J,J,J,J,J,J,J,J,J],c7 [some (.var [.d (.v (.string (B (s)))),.d (.v (.int .i64 ((n:Int)))),.d (.v (.bool (false))),.arr 2 0 R.length]),none,some (.arr 3 R)],3,2⟩=some (.exit 0,⟨[J,J,J,.one (.c (.d (.v (.int .i64 (w))))),J,J,J,J,J,J,J,J,J,J,J,J,J,J,J,J,J,J,J,J,J,J,J,J,J,J,J,J,J,J,J,J,J,J,J,J,J,J,J,J,J,J,J,J,J,J,J,J,J,J,J,J,J,J,J,J,J,J,J,J,J,J,J,J,J,J,J,J,J,J,J,J,J,J,J,J,J,J,J,J,J,J,J,J,J,J,J,J,J,J],c7 [some (.var [.d (.v (.string (B (s)))),.d (.v (.int .i64 ((n':Int)))),.d (.v (.bool (true))),.arr 2 0 R'.length]),none,some (.arr 3 R')],3,2⟩)
 |0,_,n,a,R,_,hk,_,_=>by omega
 |k+1,hT',n,a,R,hn,hk,hR,hlen=>by
  simp only[O5]
  by_cases hl:n<s.length
  ·have hb:=hT' k (by omega) s n R hn (by omega) (by omega) hs
   cases hq:E7 (s.drop n)with
   |true=>exact⟨a,n,R,hn,rfl,⟨by omega,by omega⟩,by omega,e4a s hs n a R hl hq⟩
   |false=>
    obtain⟨p,ps,rfl⟩: ∃p ps,R=p::ps:=by
     cases R with
     |nil=>simp at hR
     |cons p ps=>exact⟨p,ps,rfl⟩
    simp only
    cases hm:G8 k (s.drop n)with
    |none=>
     rw[hm]at hb
     obtain⟨w,bs,e,hbs⟩:=hb
     rcases hbs with⟨n',rfl⟩|⟨n',R',y1,y2,rfl⟩
     ·exact⟨((ps.length+1:Nat):Int),n',(p::ps)++[row 5 [] [(a:Int),w]],by simp,by simp;omega,e4b s hs n a n' w p ps hl hq (by omega) e⟩
     ·exact⟨((R'.length:Nat):Int),n',R'++[row 5 [] [(a:Int),w]],by simp,by have e1:(p::ps).length=ps.length+1:=rfl;simp at y2⊢;omega,e4c s hs n a n' w p ps R' hl hq (by omega) y1 (by omega) e⟩
    |some r=>
     rw[hm]at hb
     obtain⟨a2,n2,R2,e,g1,g2,⟨g3,g4⟩,g5⟩:=hb
     subst g2
     have ih:=b7j s hs k (fun j hj=>hT' j (by omega)) n2 R2.length (R2++[row 5 [] [(a:Int),(a2:Int)]]) g1 (by omega) (by simp) (by simp;omega)
     clear hT' hm
     simp only
     cases hml:O5 k (s.drop n2)with
     |some rest=>
      rw[hml]at ih
      obtain⟨a',n',R',q1,q2,q3,q4,q5⟩:=ih
      exact⟨a',n',R',q1,q2,by have e1:(p::ps).length=ps.length+1:=rfl;simp at q3 g4⊢;omega,by omega,c7l s hs n a n2 a2 p ps R2 hl hq (by omega) (by omega) (by omega) e _ q5⟩
     |none=>
      rw[hml]at ih
      obtain⟨w,n',R',q1,q2,q5⟩:=ih
      exact⟨w,n',R',q1,by have e1:(p::ps).length=ps.length+1:=rfl;simp at q2 g4⊢;omega,c7l s hs n a n2 a2 p ps R2 hl hq (by omega) (by omega) (by omega) e _ q5⟩
  ·have hd:s.drop n=[]:=List.drop_eq_nil_of_le (by omega)
   rw[hd]
   simp only[show E7 ([]:List UInt8)=true from rfl]
   exact⟨a,n,R,hn,hd.symm,⟨by omega,by omega⟩,by omega,e3z s hs n a R hl⟩
theorem e9g(s:List UInt8)(hs:s.length<=24)(n:Nat)(R0:List (List D))(hl:n<s.length)(hq:E7 (s.drop n)=true)(hR:R0.length<=59):c6 Tryz.prog T L0 93 [.c (.ptr 0 0 0)] (hS s n false R0)=some (.one (.c (.d (.v (.int .i64 ((R0.length:Int)))))),hT R0 s n false (R0++[[.v (.int .i64 (12)),.v (.string (B ([]))),.v (.slice none 0 0)]])):=by
 have hi:=E8 s n hl
 have hl2:(n:Int)<(s.length:Int):=by omega
 have hl3: ¬(s.length:Int)<=(n:Int):=by omega
 have hst:=N6 s n hl
 generalize s[n]=b at hi hst
 rw[hq]at hst
 have hp:=U5 12 [] s n false R0 hR
 have hq2:f8 (b.toNat:Int) 124=true∨(f8 (b.toNat:Int) 124=false∧f8 (b.toNat:Int) 41=true):=by
  cases hx:f8 (b.toNat:Int) 124 with
  |true=>exact .inl rfl
  |false=>exact .inr ⟨rfl,by simpa [hx]using hst.symm⟩
 clear hst hq hR
 rcases hq2 with z1|⟨z1,z2⟩
 all_goals
  cases R0
  all_goals
   simp only[hS,hT]at hp⊢
   refine y0 true (fun _=>T2.2) T2.1 Tryz.func93 rfl rfl fun c ht hr=>?_;simp only[m7,List.length_cons,List.length_nil,Nat.reduceAdd,e7,and_true]at c;(try simp(maxSteps:=4000000) (disch:=first|assumption|omega) only[go_sem, *,i3,Option.isSome_some,hi,hl2,hl3,hp,n6,List.length_append,↓c9,↓d9,Nat.reduceAdd,Nat.reduceSub,Nat.reduceMul,Nat.reduceBEq,Nat.reduceLeDiff,Nat.reduceLT,Nat.reduceDiv,Nat.reduceMod]);repeat' ((first|with_reducible first|refine o8 (fun hb=>?_) fun hb=>?_|refine o9 (fun hb=>?_) fun hb=>?_|refine p8 (fun hb=>?_) fun hb=>?_|refine p9 (fun hb=>?_) fun hb=>?_|refine q7 (fun hb=>?_) fun hb=>?_|refine g7 (fun hb=>?_) fun hb=>?_|rw[i0 rfl])<;>try simp(maxSteps:=4000000) (disch:=first|assumption|omega) only[go_sem, *,i3,Option.isSome_some,hi,hl2,hl3,hp,n6,List.length_append,↓c9,↓d9,Nat.reduceAdd,Nat.reduceSub,Nat.reduceMul,Nat.reduceBEq,Nat.reduceLeDiff,Nat.reduceLT,Nat.reduceDiv,Nat.reduceMod])
theorem e9h(s:List UInt8)(hs:s.length<=24)(n:Nat)(R0:List (List D))(hn: ¬n<s.length)(hR:R0.length<=59):c6 Tryz.prog T L0 93 [.c (.ptr 0 0 0)] (hS s n false R0)=some (.one (.c (.d (.v (.int .i64 ((R0.length:Int)))))),hT R0 s n false (R0++[[.v (.int .i64 (12)),.v (.string (B ([]))),.v (.slice none 0 0)]])):=by
 have hl2:(s.length:Int)<=(n:Int):=by omega
 have hp:=U5 12 [] s n false R0 hR
 clear hR
 cases R0
 all_goals
  simp only[hS,hT]at hp⊢
  refine y0 true (fun _=>T2.2) T2.1 Tryz.func93 rfl rfl fun c ht hr=>?_;simp only[m7,List.length_cons,List.length_nil,Nat.reduceAdd,e7,and_true]at c;(try simp(maxSteps:=4000000) (disch:=first|assumption|omega) only[go_sem, *,i3,Option.isSome_some,hl2,hp,n6,List.length_append,↓c9,↓d9,Nat.reduceAdd,Nat.reduceSub,Nat.reduceMul,Nat.reduceBEq,Nat.reduceLeDiff,Nat.reduceLT,Nat.reduceDiv,Nat.reduceMod]);repeat' ((first|with_reducible first|refine o8 (fun hb=>?_) fun hb=>?_|refine o9 (fun hb=>?_) fun hb=>?_|refine p8 (fun hb=>?_) fun hb=>?_|refine p9 (fun hb=>?_) fun hb=>?_|refine q7 (fun hb=>?_) fun hb=>?_|refine g7 (fun hb=>?_) fun hb=>?_|rw[i0 rfl])<;>try simp(maxSteps:=4000000) (disch:=first|assumption|omega) only[go_sem, *,i3,Option.isSome_some,hl2,hp,n6,List.length_append,↓c9,↓d9,Nat.reduceAdd,Nat.reduceSub,Nat.reduceMul,Nat.reduceBEq,Nat.reduceLeDiff,Nat.reduceLT,Nat.reduceDiv,Nat.reduceMod])
theorem e9i(s:List UInt8)(hs:s.length<=24)(n n':Nat)(w:Int)(R0:List (List D))(hl:n<s.length)(hq:E7 (s.drop n)=false)(e:c6 Tryz.prog T L0 100 [.c (.ptr 0 0 0)] (hS s n false R0)=some (.one (.c (.d (.v (.int .i64 (w))))),hS s n' true R0)):c6 Tryz.prog T L0 93 [.c (.ptr 0 0 0)] (hS s n false R0)=some (.one (.c (.d (.v (.int .i64 (w))))),hS s n' true R0):=by
 have hi:=E8 s n hl
 have hl2:(n:Int)<(s.length:Int):=by omega
 have hl3: ¬(s.length:Int)<=(n:Int):=by omega
 have hst:=N6 s n hl
 generalize s[n]=b at hi hst
 rw[hq]at hst
 have z1:f8 (b.toNat:Int) 124=false:=by
  cases hx:f8 (b.toNat:Int) 124 with
  |true=>simp[hx]at hst
  |false=>rfl
 have z2:f8 (b.toNat:Int) 41=false:=by simpa [z1]using hst.symm
 clear hst hq
 cases R0
 all_goals
  simp only[hS]at e⊢
  refine y0 true (fun _=>T2.2) T2.1 Tryz.func93 rfl rfl fun c ht hr=>?_;simp only[m7,List.length_cons,List.length_nil,Nat.reduceAdd,e7,and_true]at c;(try simp(maxSteps:=4000000) (disch:=first|assumption|omega) only[go_sem, *,i3,Option.isSome_some,hi,hl2,hl3,z1,z2,e,i1,↓c9,↓d9,Nat.reduceAdd,Nat.reduceSub,Nat.reduceMul,Nat.reduceBEq,Nat.reduceLeDiff,Nat.reduceLT,Nat.reduceDiv,Nat.reduceMod]);repeat' ((first|with_reducible first|refine o8 (fun hb=>?_) fun hb=>?_|refine o9 (fun hb=>?_) fun hb=>?_|refine p8 (fun hb=>?_) fun hb=>?_|refine p9 (fun hb=>?_) fun hb=>?_|refine q7 (fun hb=>?_) fun hb=>?_|refine g7 (fun hb=>?_) fun hb=>?_|rw[i0 rfl])<;>try simp(maxSteps:=4000000) (disch:=first|assumption|omega) only[go_sem, *,i3,Option.isSome_some,hi,hl2,hl3,z1,z2,e,i1,↓c9,↓d9,Nat.reduceAdd,Nat.reduceSub,Nat.reduceMul,Nat.reduceBEq,Nat.reduceLeDiff,Nat.reduceLT,Nat.reduceDiv,Nat.reduceMod])
theorem e9j(s:List UInt8)(hs:s.length<=24)(n n':Nat)(w:Int)(R0 R:List (List D))(hl:n<s.length)(hq:E7 (s.drop n)=false)(e:c6 Tryz.prog T L0 100 [.c (.ptr 0 0 0)] (hS s n false R0)=some (.one (.c (.d (.v (.int .i64 (w))))),hT R0 s n' true R)):c6 Tryz.prog T L0 93 [.c (.ptr 0 0 0)] (hS s n false R0)=some (.one (.c (.d (.v (.int .i64 (w))))),hT R0 s n' true R):=by
 have hi:=E8 s n hl
 have hl2:(n:Int)<(s.length:Int):=by omega
 have hl3: ¬(s.length:Int)<=(n:Int):=by omega
 have hst:=N6 s n hl
 generalize s[n]=b at hi hst
 rw[hq]at hst
 have z1:f8 (b.toNat:Int) 124=false:=by
  cases hx:f8 (b.toNat:Int) 124 with
  |true=>simp[hx]at hst
  |false=>rfl
 have z2:f8 (b.toNat:Int) 41=false:=by simpa [z1]using hst.symm
 clear hst hq
 cases R0
 all_goals
  simp only[hS,hT]at e⊢
  refine y0 true (fun _=>T2.2) T2.1 Tryz.func93 rfl rfl fun c ht hr=>?_;simp only[m7,List.length_cons,List.length_nil,Nat.reduceAdd,e7,and_true]at c;(try simp(maxSteps:=4000000) (disch:=first|assumption|omega) only[go_sem, *,i3,Option.isSome_some,hi,hl2,hl3,z1,z2,e,i1,↓c9,↓d9,Nat.reduceAdd,Nat.reduceSub,Nat.reduceMul,Nat.reduceBEq,Nat.reduceLeDiff,Nat.reduceLT,Nat.reduceDiv,Nat.reduceMod]);repeat' ((first|with_reducible first|refine o8 (fun hb=>?_) fun hb=>?_|refine o9 (fun hb=>?_) fun hb=>?_|refine p8 (fun hb=>?_) fun hb=>?_|refine p9 (fun hb=>?_) fun hb=>?_|refine q7 (fun hb=>?_) fun hb=>?_|refine g7 (fun hb=>?_) fun hb=>?_|rw[i0 rfl])<;>try simp(maxSteps:=4000000) (disch:=first|assumption|omega) only[go_sem, *,i3,Option.isSome_some,hi,hl2,hl3,z1,z2,e,i1,↓c9,↓d9,Nat.reduceAdd,Nat.reduceSub,Nat.reduceMul,Nat.reduceBEq,Nat.reduceLeDiff,Nat.reduceLT,Nat.reduceDiv,Nat.reduceMod])
theorem c7m(s:List UInt8)(hs:s.length<=24)(n n2 n' a:Nat)(w:Int)(bad:Bool)(R R':List (List D))(hl:n<s.length)(hq:E7 (s.drop n)=false)(e:c6 Tryz.prog T L0 100 [.c (.ptr 0 0 0)] (hS s n false [])=some (.one (.c (.d (.v (.int .i64 ((a:Int)))))),hT [] s n2 false R))(q5:g8 Tryz.prog T (c6 Tryz.prog T L0) 93 (cq Tryz.f93 [0,0,0,1,1,1]) ⟨[.one (.c (.ptr 0 0 0)),J,J,.one (.c (.d (.v (.int .i64 ((a:Int)))))),J,J,J,J,J,J,J,J,J,J,J,J,J,J,J,J,J,J,J,J,J,J,J,J,J,J,J,J,J,J,J,J,J,J,J,J,J,J,J,J,J,J,J,J,J,J,J,J,J,J,J,J,J,J,J,J,J,J,J,J,J,J,J,J,J,J,J,J,J,J,J,J,J,J,J,J,J,J,J,J,J,J,J,J,J,J,J,J,J,J],c7 [some (.var [.d (.v (.string (B (s)))),.d (.v (.int .i64 ((n2:Int)))),.d (.v (.bool (false))),.arr 1 0 R.length]),some (.arr 3 R)],2,1⟩=some (.exit 0,⟨[J,J,J,.one (.c (.d (.v (.int .i64 (w))))),J,J,J,J,J,J,J,J,J,J,J,J,J,J,J,J,J,J,J,J,J,J,J,J,J,J,J,J,J,J,J,J,J,J,J,J,J,J,J,J,J,J,J,J,J,J,J,J,J,J,J,J,J,J,J,J,J,J,J,J,J,J,J,J,J,J,J,J,J,J,J,J,J,J,J,J,J,J,J,J,J,J,J,J,J,J,J,J,J,J],c7 [some (.var [.d (.v (.string (B (s)))),.d (.v (.int .i64 ((n':Int)))),.d (.v (.bool (bad))),.arr 1 0 R'.length]),some (.arr 3 R')],2,1⟩)):c6 Tryz.prog T L0 93 [.c (.ptr 0 0 0)] (hS s n false [])=some (.one (.c (.d (.v (.int .i64 (w))))),hT [] s n' bad R'):=by
 have hi:=E8 s n hl
 have hl2:(n:Int)<(s.length:Int):=by omega
 have hl3: ¬(s.length:Int)<=(n:Int):=by omega
 have hst:=N6 s n hl
 generalize s[n]=b at hi hst
 rw[hq]at hst
 have z1:f8 (b.toNat:Int) 124=false:=by
  cases hx:f8 (b.toNat:Int) 124 with
  |true=>simp[hx]at hst
  |false=>rfl
 have z2:f8 (b.toNat:Int) 41=false:=by simpa [z1]using hst.symm
 clear hst hq
 simp only[hS,hT]at e⊢
 exact fn T2 Tryz.func93
theorem c7n(s:List UInt8)(hs:s.length<=24)(n n2 n' a:Nat)(w:Int)(bad:Bool)(p:List D)(ps:List (List D))(R R':List (List D))(hl:n<s.length)(hq:E7 (s.drop n)=false)(e:c6 Tryz.prog T L0 100 [.c (.ptr 0 0 0)] (hS s n false (p::ps))=some (.one (.c (.d (.v (.int .i64 ((a:Int)))))),hT (p::ps) s n2 false R))(q5:g8 Tryz.prog T (c6 Tryz.prog T L0) 93 (cq Tryz.f93 [0,0,0,1,1,1]) ⟨[.one (.c (.ptr 0 0 0)),J,J,.one (.c (.d (.v (.int .i64 ((a:Int)))))),J,J,J,J,J,J,J,J,J,J,J,J,J,J,J,J,J,J,J,J,J,J,J,J,J,J,J,J,J,J,J,J,J,J,J,J,J,J,J,J,J,J,J,J,J,J,J,J,J,J,J,J,J,J,J,J,J,J,J,J,J,J,J,J,J,J,J,J,J,J,J,J,J,J,J,J,J,J,J,J,J,J,J,J,J,J,J,J,J,J],c7 [some (.var [.d (.v (.string (B (s)))),.d (.v (.int .i64 ((n2:Int)))),.d (.v (.bool (false))),.arr 2 0 R.length]),none,some (.arr 3 R)],3,2⟩=some (.exit 0,⟨[J,J,J,.one (.c (.d (.v (.int .i64 (w))))),J,J,J,J,J,J,J,J,J,J,J,J,J,J,J,J,J,J,J,J,J,J,J,J,J,J,J,J,J,J,J,J,J,J,J,J,J,J,J,J,J,J,J,J,J,J,J,J,J,J,J,J,J,J,J,J,J,J,J,J,J,J,J,J,J,J,J,J,J,J,J,J,J,J,J,J,J,J,J,J,J,J,J,J,J,J,J,J,J,J],c7 [some (.var [.d (.v (.string (B (s)))),.d (.v (.int .i64 ((n':Int)))),.d (.v (.bool (bad))),.arr 2 0 R'.length]),none,some (.arr 3 R')],3,2⟩)):c6 Tryz.prog T L0 93 [.c (.ptr 0 0 0)] (hS s n false (p::ps))=some (.one (.c (.d (.v (.int .i64 (w))))),hT (p::ps) s n' bad R'):=by
 have hi:=E8 s n hl
 have hl2:(n:Int)<(s.length:Int):=by omega
 have hl3: ¬(s.length:Int)<=(n:Int):=by omega
 have hst:=N6 s n hl
 generalize s[n]=b at hi hst
 rw[hq]at hst
 have z1:f8 (b.toNat:Int) 124=false:=by
  cases hx:f8 (b.toNat:Int) 124 with
  |true=>simp[hx]at hst
  |false=>rfl
 have z2:f8 (b.toNat:Int) 41=false:=by simpa [z1]using hst.symm
 clear hst hq
 simp only[hS,hT]at e⊢
 exact fn T2 Tryz.func93
theorem e4d(k:Nat)(hT': ∀j,j<k+1->Q7 100 G8 0 4 j):Q7 93 T4 1 5 (k+1):=by
 intro s n R0 hn hk hlen hs
 simp only[T4]
 by_cases hl:n<s.length
 ·have hb:=hT' k (by omega) s n R0 hn (by omega) (by omega) hs
  cases hq:E7 (s.drop n)with
  |true=>exact⟨R0.length,n,R0++[[.v (.int .i64 (12)),.v (.string (B ([]))),.v (.slice none 0 0)]],e9g s hs n R0 hl hq (by omega),hn,rfl,⟨by simp,by simp;omega⟩,by omega⟩
  |false=>
   simp only
   cases hm:G8 k (s.drop n)with
   |none=>
    rw[hm]at hb
    obtain⟨w,bs,e,hbs⟩:=hb
    rcases hbs with⟨n',rfl⟩|⟨n',R,y1,y2,rfl⟩
    ·exact⟨w,_,e9i s hs n n' w R0 hl hq e,.inl ⟨n',rfl⟩⟩
    ·exact⟨w,_,e9j s hs n n' w R0 R hl hq e,.inr ⟨n',R,y1,by omega,rfl⟩⟩
   |some r=>
    rw[hm]at hb
    obtain⟨a,n2,R,e,g1,g2,⟨g3,g4⟩,g5⟩:=hb
    subst g2
    simp only
    cases R0 with
    |nil=>
     have ih:=b7i s hs k (fun j hj=>hT' j (by omega)) n2 a R g1 (by omega) (by omega) (by simp at g4 hlen;omega)
     cases hml:O5 k (s.drop n2)with
     |some rest=>
      rw[hml]at ih
      obtain⟨a',n',R',q1,q2,q3,q4,q5⟩:=ih
      exact⟨a',n',R',c7m s hs n n2 n' a (a':Int) false R R' hl hq e q5,q1,q2,⟨by omega,by simp at g4⊢;omega⟩,by omega⟩
     |none=>
      rw[hml]at ih
      obtain⟨w,n',R',q1,q2,q5⟩:=ih
      exact⟨w,_,c7m s hs n n2 n' a w true R R' hl hq e q5,.inr ⟨n',R',q1,by simp at g4⊢;omega,rfl⟩⟩
    |cons p ps=>
     have ih:=b7j s hs k (fun j hj=>hT' j (by omega)) n2 a R g1 (by omega) (by omega) (by simp at g4 hlen;omega)
     cases hml:O5 k (s.drop n2)with
     |some rest=>
      rw[hml]at ih
      obtain⟨a',n',R',q1,q2,q3,q4,q5⟩:=ih
      exact⟨a',n',R',c7n s hs n n2 n' a (a':Int) false p ps R R' hl hq e q5,q1,q2,⟨by omega,by simp at g4⊢;omega⟩,by omega⟩
     |none=>
      rw[hml]at ih
      obtain⟨w,n',R',q1,q2,q5⟩:=ih
      exact⟨w,_,c7n s hs n n2 n' a w true p ps R R' hl hq e q5,.inr ⟨n',R',q1,by simp at g4⊢;omega,rfl⟩⟩
 ·have hd:s.drop n=[]:=List.drop_eq_nil_of_le (by omega)
  rw[hd]
  simp only[show E7 ([]:List UInt8)=true from rfl]
  exact⟨R0.length,n,R0++[[.v (.int .i64 (12)),.v (.string (B ([]))),.v (.slice none 0 0)]],e9h s hs n R0 hl (by omega),hn,hd.symm,⟨by simp,by simp;omega⟩,by omega⟩
end
end Go.Vsi
