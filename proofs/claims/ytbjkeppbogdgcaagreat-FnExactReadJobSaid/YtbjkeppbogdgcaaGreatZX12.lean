/- What the functions of the program, of the reference and of the law do (a part of it). -/
import Derived.Test.YtbjkeppbogdgcaaGreatZX7
namespace Go.Vsi
open Go.Proofs
noncomputable section
set_option maxRecDepth 100000
set_option maxHeartbeats 4000000
set_option linter.unusedSimpArgs false
set_option linter.unusedVariables false
attribute [local go_sem] v6
def hS(s:List UInt8)(n:Nat)(bad:Bool):List (List D)->List (Option k7)
 |[]=>[some (.var [.d (.v (.string (B (s)))),.d (.v (.int .i64 ((n:Int)))),.d (.v (.bool (bad))),.d (.v (.slice none 0 0))])]
 |p::ps=>[some (.var [.d (.v (.string (B (s)))),.d (.v (.int .i64 ((n:Int)))),.d (.v (.bool (bad))),.arr 1 0 (ps.length+1)]),some (.arr 3 (p::ps))]
def hT(R0:List (List D))(s:List UInt8)(n:Nat)(bad:Bool)(R:List (List D)):List (Option k7):=
 match R0 with
 |[]=>[some (.var [.d (.v (.string (B (s)))),.d (.v (.int .i64 ((n:Int)))),.d (.v (.bool (bad))),.arr 1 0 R.length]),some (.arr 3 R)]
 |_::_=>[some (.var [.d (.v (.string (B (s)))),.d (.v (.int .i64 ((n:Int)))),.d (.v (.bool (bad))),.arr 2 0 R.length]),none,some (.arr 3 R)]
theorem U5(op:Int)(t:List UInt8)(s:List UInt8)(n:Nat)(bad:Bool)(R:List (List D))(hn:R.length<=59):c6 Tryz.prog T L0 95 [.c (.ptr 0 0 0),.agg [.d (.v (.int .i64 (op))),.d (.v (.string (B (t)))),.d (.v (.slice none 0 0))]] (hS s n bad R)=some (.one (.c (.d (.v (.int .i64 ((R.length:Int)))))),hT R s n bad (R++[[.v (.int .i64 (op)),.v (.string (B (t))),.v (.slice none 0 0)]])):=by
 have hroom:room=70368744177664:=rfl
 cases R with
 |nil=>
  simp only[hS,hT,List.nil_append]
  refine y0 true (fun _=>W95.2) W95.1 Tryz.func95 rfl rfl fun c ht hr=>?_;simp only[m7,List.length_cons,List.length_nil,Nat.reduceAdd,e7,and_true]at c;(try simp(maxSteps:=4000000) (disch:=first|assumption|omega) only[go_sem, *,↓c9,↓d9,Nat.reduceAdd,Nat.reduceSub,Nat.reduceMul,Nat.reduceBEq,Nat.reduceLeDiff,Nat.reduceLT,Nat.reduceDiv,Nat.reduceMod]);repeat' ((first|with_reducible first|refine o8 (fun hb=>?_) fun hb=>?_|refine o9 (fun hb=>?_) fun hb=>?_|refine p8 (fun hb=>?_) fun hb=>?_|refine p9 (fun hb=>?_) fun hb=>?_|refine q7 (fun hb=>?_) fun hb=>?_|refine g7 (fun hb=>?_) fun hb=>?_|rw[i0 rfl])<;>try simp(maxSteps:=4000000) (disch:=first|assumption|omega) only[go_sem, *,↓c9,↓d9,Nat.reduceAdd,Nat.reduceSub,Nat.reduceMul,Nat.reduceBEq,Nat.reduceLeDiff,Nat.reduceLT,Nat.reduceDiv,Nat.reduceMod])
  all_goals rfl
 |cons p ps=>
  have hps:ps.length<=58:=by simp at hn;omega
  obtain⟨R,hR⟩: ∃R,R=p::ps:=⟨_,rfl⟩
  have hl:R.length=ps.length+1:=by rw[hR];rfl
  have ht:R.take (ps.length+1)=R:=List.take_of_length_le (by omega)
  simp only[hS,hT]
  rw[<-hR]
  clear hR hn
  have hs:((ps.length+1+1:Nat):Int)-1=((ps.length+1:Nat):Int):=by omega
  refine y0 true (fun _=>W95.2) W95.1 Tryz.func95 rfl rfl fun c ht hr=>?_;simp only[m7,List.length_cons,List.length_nil,Nat.reduceAdd,e7,and_true]at c;(try simp(maxSteps:=4000000) (disch:=first|assumption|omega) only[go_sem, *,hl,ht,hs,List.length_append,↓c9,↓d9,Nat.reduceAdd,Nat.reduceSub,Nat.reduceMul,Nat.reduceBEq,Nat.reduceLeDiff,Nat.reduceLT,Nat.reduceDiv,Nat.reduceMod]);repeat' ((first|with_reducible first|refine o8 (fun hb=>?_) fun hb=>?_|refine o9 (fun hb=>?_) fun hb=>?_|refine p8 (fun hb=>?_) fun hb=>?_|refine p9 (fun hb=>?_) fun hb=>?_|refine q7 (fun hb=>?_) fun hb=>?_|refine g7 (fun hb=>?_) fun hb=>?_|rw[i0 rfl])<;>try simp(maxSteps:=4000000) (disch:=first|assumption|omega) only[go_sem, *,hl,ht,hs,List.length_append,↓c9,↓d9,Nat.reduceAdd,Nat.reduceSub,Nat.reduceMul,Nat.reduceBEq,Nat.reduceLeDiff,Nat.reduceLT,Nat.reduceDiv,Nat.reduceMod])
theorem E8(s:List UInt8)(n:Nat)(h:n<s.length):i8 Tryz.prog (Instr.index 9 (.string (B s)) (.int .i64 (n:Int)))=some (.one (.c (.d (.v (.int .u8 (((s[n]'h).toNat:Int))))))):=by
 have:=v6 s .i64 (n:Int) ⟨by omega,by simpa using h⟩
 simpa using this
theorem a7e(c:UInt8)(s:List UInt8)(n:Nat)(hn:n<=s.length)(hs:s.length<=24)(R:List (List D)):c6 Tryz.prog T L0 94 [.c (.ptr 0 0 0),.c (.d (.v (.int .u8 ((c.toNat:Int)))))] (hS s n false R)=some (.one (.c (.d (.v (.bool (nx c (s.drop n)))))),hS s n false R):=by
 by_cases hl:n<s.length
 ·have hi:=E8 s n hl
  rw[List.drop_eq_getElem_cons hl]
  simp only[nx]
  generalize s[n]=b at hi⊢
  have hl2:(n:Int)<(s.length:Int):=by omega
  cases R
  all_goals
   simp only[hS]
   refine y0 true (fun _=>W94.2) W94.1 Tryz.func94 rfl rfl fun c ht hr=>?_;simp only[m7,List.length_cons,List.length_nil,Nat.reduceAdd,e7,and_true]at c;(try simp(maxSteps:=4000000) (disch:=first|assumption|omega) only[go_sem, *,hi,hl2,↓c9,↓d9,Nat.reduceAdd,Nat.reduceSub,Nat.reduceMul,Nat.reduceBEq,Nat.reduceLeDiff,Nat.reduceLT,Nat.reduceDiv,Nat.reduceMod]);repeat' ((first|with_reducible first|refine o8 (fun hb=>?_) fun hb=>?_|refine o9 (fun hb=>?_) fun hb=>?_|refine p8 (fun hb=>?_) fun hb=>?_|refine p9 (fun hb=>?_) fun hb=>?_|refine q7 (fun hb=>?_) fun hb=>?_|refine g7 (fun hb=>?_) fun hb=>?_|rw[i0 rfl])<;>try simp(maxSteps:=4000000) (disch:=first|assumption|omega) only[go_sem, *,hi,hl2,↓c9,↓d9,Nat.reduceAdd,Nat.reduceSub,Nat.reduceMul,Nat.reduceBEq,Nat.reduceLeDiff,Nat.reduceLT,Nat.reduceDiv,Nat.reduceMod])
   rfl
 ·rw[List.drop_eq_nil_of_le (by omega)]
  simp only[nx]
  have hl2: ¬(n:Int)<(s.length:Int):=by omega
  cases R
  all_goals
   simp only[hS]
   exact fn W94 Tryz.func94
theorem a2f(op:Int)(t:List UInt8)(ks:List Int)(hk:ks.length<=4)(s:List UInt8)(i:Nat)(bad:Bool)(R:List (List D))(n:Nat)(hn:R.length=n)(h1:1<=n∧n<=59):
 c6 Tryz.prog T L0 95 [.c (.ptr 0 0 0),.agg [.d (.v (.int .i64 (op))),.d (.v (.string (B (t)))),.arr 2 0 ks.length]] [some (.var [.d (.v (.string (B (s)))),.d (.v (.int .i64 ((i:Int)))),.d (.v (.bool (bad))),.arr 1 0 n]),some (.arr 3 R),some (.arr 1 (rI ks))]=
  some (.one (.c (.d (.v (.int .i64 ((n:Int)))))),[some (.var [.d (.v (.string (B (s)))),.d (.v (.int .i64 ((i:Int)))),.d (.v (.bool (bad))),.arr 3 0 (n+1)]),none,none,some (.arr 3 (R++[row op t ks]))]):=by
 have hroom:room=70368744177664:=rfl
 have e:row op t ks=[.v (.int .i64 (op)),.v (.string (B (t))),.sl 1 (rI ks)]:=rfl
 rw[e]
 have ht:R.take n=R:=List.take_of_length_le (by omega)
 have hkt:(rI ks).take ks.length=rI ks:=List.take_of_length_le (by simp[rI])
 have hs:((n+1:Nat):Int)-1=(n:Int):=by omega
 exact fn W95 Tryz.func95
end
end Go.Vsi
namespace Go.Vsi
open Go.Proofs
noncomputable section
set_option maxRecDepth 100000
set_option maxHeartbeats 4000000
set_option linter.unusedSimpArgs false
set_option linter.unusedVariables false
attribute [local go_sem] v6
def K0:List UInt8->Nat
 |[]=>0
 |b::l=>if(b.toNat:Int)=93 then 0 else K0 l+1
theorem U6(s:List UInt8)(hs:s.length<=24)(op b0:Int): ∀(m n:Nat),n+m=s.length->
 g8 Tryz.prog T (c6 Tryz.prog T L0) 106 (cq Tryz.f106 [0,0,0,1,1,1,1,1]) ⟨[.one (.c (.ptr 0 0 0)),J,J,.one (.c (.d (.v (.int .i64 (op))))),.one (.c (.d (.v (.int .i64 (b0))))),J,J,J,J,J,J,J,J,J,J,J,J,J,J,J,J,J,J,J,J,J,J,J,J,J,J,J,J,J,J,J,J,J,J,J,J,J,J,J,J,J,J,J,J,J,J,J,J,J,J,J,J,J,J,J,J,J,J,J,J,J,J,J,J,J,J,J,J,J,J,J,J,J,J,J,J,J,J,J,J,J,J,J,J,J,J,J,J,J,J,J,J,J,J,J,J,J],c7 [some (.var [.d (.v (.string (B (s)))),.d (.v (.int .i64 ((n:Int)))),.d (.v (.bool (false))),.d (.v (.slice none 0 0))])],1,1⟩=some (.exit 0,⟨[.one (.c (.ptr 0 0 0)),J,J,.one (.c (.d (.v (.int .i64 (op))))),.one (.c (.d (.v (.int .i64 (b0))))),J,J,J,J,J,J,J,J,J,J,J,J,J,J,J,J,J,J,J,J,J,J,J,J,J,J,J,J,J,J,J,J,J,J,J,J,J,J,J,J,J,J,J,J,J,J,J,J,J,J,J,J,J,J,J,J,J,J,J,J,J,J,J,J,J,J,J,J,J,J,J,J,J,J,J,J,J,J,J,J,J,J,J,J,J,J,J,J,J,J,J,J,J,J,J,J,J],c7 [some (.var [.d (.v (.string (B (s)))),.d (.v (.int .i64 (((n+K0 (s.drop n):Nat):Int)))),.d (.v (.bool (false))),.d (.v (.slice none 0 0))])],1,1⟩)
 |0,n,hm=>by
  rw[List.drop_eq_nil_of_le (by omega),K0,Nat.add_zero]
  have hl2: ¬(n:Int)<(s.length:Int):=by omega
  exact lp a1x
 |m+1,n,hm=>by
  have hl:n<s.length:=by omega
  have hl2:(n:Int)<(s.length:Int):=by omega
  have hi:=E8 s n hl
  rw[List.drop_eq_getElem_cons hl,K0]
  have ih:=U6 s hs op b0 m (n+1) (by omega)
  generalize s[n]=b at hi⊢
  have ec:((n+1:Nat):Int)=(n:Int)+1:=by omega
  by_cases hb:(b.toNat:Int)=93
  ·rw[if_pos hb,Nat.add_zero]
   clear ih
   rw[hb]at hi
   exact lp a1x
  ·rw[if_neg hb]
   have hq:f8 (b.toNat:Int) 93=false:=by simp[f8,hb]
   rw[show n+(K0 (s.drop (n+1))+1)=n+1+K0 (s.drop (n+1)) by omega,<-ih,ec]
   clear ih hb
   exact lp a1x
theorem U7(s:List UInt8)(hs:s.length<=24)(op b0:Int)(r:Nat)(R:List (List D)): ∀(m n:Nat),n+m=s.length->
 g8 Tryz.prog T (c6 Tryz.prog T L0) 106 (cq Tryz.f106 [0,0,0,1,1,1,1,1]) ⟨[.one (.c (.ptr 0 0 0)),J,J,.one (.c (.d (.v (.int .i64 (op))))),.one (.c (.d (.v (.int .i64 (b0))))),J,J,J,J,J,J,J,J,J,J,J,J,J,J,J,J,J,J,J,J,J,J,J,J,J,J,J,J,J,J,J,J,J,J,J,J,J,J,J,J,J,J,J,J,J,J,J,J,J,J,J,J,J,J,J,J,J,J,J,J,J,J,J,J,J,J,J,J,J,J,J,J,J,J,J,J,J,J,J,J,J,J,J,J,J,J,J,J,J,J,J,J,J,J,J,J,J],c7 [some (.var [.d (.v (.string (B (s)))),.d (.v (.int .i64 ((n:Int)))),.d (.v (.bool (false))),.arr 1 0 r]),some (.arr 3 R)],2,2⟩=some (.exit 0,⟨[.one (.c (.ptr 0 0 0)),J,J,.one (.c (.d (.v (.int .i64 (op))))),.one (.c (.d (.v (.int .i64 (b0))))),J,J,J,J,J,J,J,J,J,J,J,J,J,J,J,J,J,J,J,J,J,J,J,J,J,J,J,J,J,J,J,J,J,J,J,J,J,J,J,J,J,J,J,J,J,J,J,J,J,J,J,J,J,J,J,J,J,J,J,J,J,J,J,J,J,J,J,J,J,J,J,J,J,J,J,J,J,J,J,J,J,J,J,J,J,J,J,J,J,J,J,J,J,J,J,J,J],c7 [some (.var [.d (.v (.string (B (s)))),.d (.v (.int .i64 (((n+K0 (s.drop n):Nat):Int)))),.d (.v (.bool (false))),.arr 1 0 r]),some (.arr 3 R)],2,2⟩)
 |0,n,hm=>by
  rw[List.drop_eq_nil_of_le (by omega),K0,Nat.add_zero]
  have hl2: ¬(n:Int)<(s.length:Int):=by omega
  exact lp a1x
 |m+1,n,hm=>by
  have hl:n<s.length:=by omega
  have hl2:(n:Int)<(s.length:Int):=by omega
  have hi:=E8 s n hl
  rw[List.drop_eq_getElem_cons hl,K0]
  have ih:=U7 s hs op b0 r R m (n+1) (by omega)
  generalize s[n]=b at hi⊢
  have ec:((n+1:Nat):Int)=(n:Int)+1:=by omega
  by_cases hb:(b.toNat:Int)=93
  ·rw[if_pos hb,Nat.add_zero]
   clear ih
   rw[hb]at hi
   exact lp a1x
  ·rw[if_neg hb]
   have hq:f8 (b.toNat:Int) 93=false:=by simp[f8,hb]
   rw[show n+(K0 (s.drop (n+1))+1)=n+1+K0 (s.drop (n+1)) by omega,<-ih,ec]
   clear ih hb
   exact lp a1x
end
end Go.Vsi
