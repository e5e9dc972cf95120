/- What the functions of the program, of the reference and of the law do (a part of it). -/
import Derived.Test.YtbjkeppbogdgcaaGreatZX10
namespace Go.Vsi
open Go.Proofs
noncomputable section
set_option maxRecDepth 100000
set_option maxHeartbeats 4000000
set_option linter.unusedSimpArgs false
set_option linter.unusedVariables false
attribute [local go_sem ↓] v6
theorem d0p(op:Int)(t:List UInt8)(ks:List Int)(n:Int)(h:pOK op t ks n=true)(hn:0<=n∧n<=maxLen):c6 Tryz.prog T L0 92 [.agg ((row op t ks).map .d),.c (.d (.v (.int .i64 (n))))] []=some (.one (.c (.d (.v (.bool (true))))),[]):=by
 have:maxLen=9223372036854775807:=rfl
 unfold pOK at h
 simp only[Bool.and_eq_true,decide_eq_true_eq]at h
 obtain⟨⟨⟨h1,h2⟩,h3⟩,h4⟩:=h
 have hk:ks.length<=2:=by rw[h3];unfold x8;split<;>(try split)<;>omega
 have hA:=c3d ks n (by omega) hn
 rw[h4]at hA
 have hl:(rI ks).length=ks.length:=by simp[rI]
 rw[h3]at hl
 clear h4 h3 hk
 have hop:op=1∨op=2∨op=3∨op=4∨op=5∨op=6∨op=7∨op=8∨op=9∨op=10∨op=11∨op=12:=by omega
 clear h1
 have e:x8 1=0∧x8 2=0∧x8 3=0∧x8 4=0∧x8 5=2∧x8 6=2∧x8 7=1∧x8 8=1∧x8 9=1∧x8 10=0∧x8 11=0∧x8 12=0:=⟨rfl,rfl,rfl,rfl,rfl,rfl,rfl,rfl,rfl,rfl,rfl,rfl⟩
 rcases hop with rfl|rfl|rfl|rfl|rfl|rfl|rfl|rfl|rfl|rfl|rfl|rfl
 all_goals
  simp[J3]at h2
  simp only[e]at hl
  try subst h2
  clear e
  refine y0 true (fun _=>W92.2) W92.1 Tryz.func92 rfl rfl fun c ht hr=>?_;simp only[m7,List.length_cons,List.length_nil,Nat.reduceAdd,e7,and_true]at c;(try simp(maxSteps:=4000000) (disch:=first|assumption|omega) only[go_sem, *,row,A7,hA,hl,↓c9,↓d9,Nat.reduceAdd,Nat.reduceSub,Nat.reduceMul,Nat.reduceBEq,Nat.reduceLeDiff,Nat.reduceLT,Nat.reduceDiv,Nat.reduceMod]);repeat' ((first|with_reducible first|refine o8 (fun hb=>?_) fun hb=>?_|refine o9 (fun hb=>?_) fun hb=>?_|refine p8 (fun hb=>?_) fun hb=>?_|refine p9 (fun hb=>?_) fun hb=>?_|refine q7 (fun hb=>?_) fun hb=>?_|refine g7 (fun hb=>?_) fun hb=>?_|rw[i0 rfl])<;>try simp(maxSteps:=4000000) (disch:=first|assumption|omega) only[go_sem, *,row,A7,hA,hl,↓c9,↓d9,Nat.reduceAdd,Nat.reduceSub,Nat.reduceMul,Nat.reduceBEq,Nat.reduceLeDiff,Nat.reduceLT,Nat.reduceDiv,Nat.reduceMod])
theorem a9p(R:List (List D))(h:G9 R)(hl:R.length<=60): ∀(m:Nat)(i:Int),0<=i->i+m=R.length->
  g8 Tryz.prog T (c6 Tryz.prog T L0) 86 (cq Tryz.f86 [0,0,1,0,1]) ⟨[J,.one (.c (.ptr 1 0 0)),J,J,J,J,.one (.c (.arr 0 0 R.length)),.one (.c (.d (.v (.int .i64 ((R.length:Int)))))),.one (.c (.d (.v (.int .i64 (i))))),J,J,J,J,J,J,J,J,J,J,J,J,J],c7 [some (.arr 3 R),some (.var [.arr 0 0 R.length])],2,1⟩=
   some (.exit 0,⟨[J,.one (.c (.ptr 1 0 0)),J,J,J,J,J,J,J,J,J,J,J,J,J,J,J,J,J,J,J,J],c7 [some (.arr 3 R),some (.var [.arr 0 0 R.length])],2,1⟩)
 |0,i,h0,hm=>by
  clear h
  exact lp W86
 |m+1,i,h0,hm=>by
  have:maxLen=9223372036854775807:=rfl
  have ih:=a9p R h hl m (i+1) (by omega) (by omega)
  have hil:i.toNat<R.length:=by omega
  have hg:=List.getElem?_eq_getElem hil
  obtain⟨op,t,ks,hr,hp⟩:=h i.toNat _ hg
  rw[hr]at hg
  rw[show((i.toNat:Nat):Int)=i by omega]at hp
  have hk:=d0p op t ks i hp ⟨h0,by omega⟩
  simp only[row,List.map_cons,List.map_nil]at hk hg
  clear h hr hp
  exact lp W86
theorem c3i(R:List (List D))(h:G9 R)(h1:1<=R.length)(hl:R.length<=60):c6 Tryz.prog T L0 86 [.agg [.arr 0 0 R.length]] [some (.arr 3 R)]=some (.one (.c (.d (.v (.bool (true))))),[some (.arr 3 R)]):=by
 have L:=a9p R h hl R.length 0 (by omega) (by omega)
 clear h
 refine y0 true (fun _=>W86.2) W86.1 Tryz.func86 rfl rfl fun c ht hr=>?_;simp only[m7,List.length_cons,List.length_nil,Nat.reduceAdd,e7,and_true]at c;(try simp(maxSteps:=4000000) (disch:=first|assumption|omega) only[go_sem, *,L,A7,↓c9,↓d9,Nat.reduceAdd,Nat.reduceSub,Nat.reduceMul,Nat.reduceBEq,Nat.reduceLeDiff,Nat.reduceLT,Nat.reduceDiv,Nat.reduceMod]);repeat' ((first|with_reducible first|refine o8 (fun hb=>?_) fun hb=>?_|refine o9 (fun hb=>?_) fun hb=>?_|refine p8 (fun hb=>?_) fun hb=>?_|refine p9 (fun hb=>?_) fun hb=>?_|refine q7 (fun hb=>?_) fun hb=>?_|refine g7 (fun hb=>?_) fun hb=>?_|rw[i0 rfl])<;>try simp(maxSteps:=4000000) (disch:=first|assumption|omega) only[go_sem, *,L,A7,↓c9,↓d9,Nat.reduceAdd,Nat.reduceSub,Nat.reduceMul,Nat.reduceBEq,Nat.reduceLeDiff,Nat.reduceLT,Nat.reduceDiv,Nat.reduceMod])
def rdP(s:List UInt8):Bool:=decide (1<=(s.length:Int)∧(s.length:Int)<=24)&&(match F9 150 s with|some r=>r.isEmpty|none=>false)
theorem b8l:c1o 78 rdP:=by
 intro s hs
 unfold rdP
 have:maxLen=9223372036854775807:=rfl
 by_cases hlen:1<=(s.length:Int)∧(s.length:Int)<=24
 ·have hA:=(e9f 150).1 s [] (by omega) (fun i r hr=>by simp at hr) (by simp;omega) (by omega)
  simp only[d8z hlen,Bool.true_and]
  cases hm:F9 150 s with
  |none=>
   rw[hm]at hA
   obtain⟨w,bs,e,hbs⟩:=hA
   refine⟨.v (.slice none 0 0),?_⟩
   clear hm
   rcases hbs with⟨l',rfl⟩|⟨l',R,z1,z2,rfl⟩
   all_goals
    simp only[hP,hQ]at e
    refine y0 true (fun _=>W78.2) W78.1 Tryz.func78 rfl rfl fun c ht hr=>?_;simp only[m7,List.length_cons,List.length_nil,Nat.reduceAdd,e7,and_true]at c;(try simp(maxSteps:=4000000) (disch:=first|assumption|omega) only[go_sem, *,e,A7,i3,Option.isSome_some,u5,↓c9,↓d9,Nat.reduceAdd,Nat.reduceSub,Nat.reduceMul,Nat.reduceBEq,Nat.reduceLeDiff,Nat.reduceLT,Nat.reduceDiv,Nat.reduceMod]);repeat' ((first|with_reducible first|refine o8 (fun hb=>?_) fun hb=>?_|refine o9 (fun hb=>?_) fun hb=>?_|refine p8 (fun hb=>?_) fun hb=>?_|refine p9 (fun hb=>?_) fun hb=>?_|refine q7 (fun hb=>?_) fun hb=>?_|refine g7 (fun hb=>?_) fun hb=>?_|rw[i0 rfl])<;>try simp(maxSteps:=4000000) (disch:=first|assumption|omega) only[go_sem, *,e,A7,i3,Option.isSome_some,u5,↓c9,↓d9,Nat.reduceAdd,Nat.reduceSub,Nat.reduceMul,Nat.reduceBEq,Nat.reduceLeDiff,Nat.reduceLT,Nat.reduceDiv,Nat.reduceMod])
  |some r=>
   rw[hm]at hA
   obtain⟨a,R,e,g1,g2,g3,g4⟩:=hA
   have hp:=c3i R g1 (by omega) (by simp at g3;omega)
   clear hm g1 g3 g4
   cases r with
   |nil=>
    refine⟨.sl 3 R,?_⟩
    simp only[hP,hQ]at e
    have ht:R.take R.length=R:=List.take_of_length_le (Nat.le_refl _)
    refine y0 true (fun _=>W78.2) W78.1 Tryz.func78 rfl rfl fun c ht hr=>?_;simp only[m7,List.length_cons,List.length_nil,Nat.reduceAdd,e7,and_true]at c;(try simp(maxSteps:=4000000) (disch:=first|assumption|omega) only[go_sem, *,e,hp,A7,i3,Option.isSome_some,u5,ht,List.isEmpty_nil,↓c9,↓d9,Nat.reduceAdd,Nat.reduceSub,Nat.reduceMul,Nat.reduceBEq,Nat.reduceLeDiff,Nat.reduceLT,Nat.reduceDiv,Nat.reduceMod]);repeat' ((first|with_reducible first|refine o8 (fun hb=>?_) fun hb=>?_|refine o9 (fun hb=>?_) fun hb=>?_|refine p8 (fun hb=>?_) fun hb=>?_|refine p9 (fun hb=>?_) fun hb=>?_|refine q7 (fun hb=>?_) fun hb=>?_|refine g7 (fun hb=>?_) fun hb=>?_|rw[i0 rfl])<;>try simp(maxSteps:=4000000) (disch:=first|assumption|omega) only[go_sem, *,e,hp,A7,i3,Option.isSome_some,u5,ht,List.isEmpty_nil,↓c9,↓d9,Nat.reduceAdd,Nat.reduceSub,Nat.reduceMul,Nat.reduceBEq,Nat.reduceLeDiff,Nat.reduceLT,Nat.reduceDiv,Nat.reduceMod])
   |cons b r=>
    refine⟨.v (.slice none 0 0),?_⟩
    have e2:((b::r)=[])=False:=by simp
    simp only[hP,hQ]at e
    refine y0 true (fun _=>W78.2) W78.1 Tryz.func78 rfl rfl fun c ht hr=>?_;simp only[m7,List.length_cons,List.length_nil,Nat.reduceAdd,e7,and_true]at c;(try simp(maxSteps:=4000000) (disch:=first|assumption|omega) only[go_sem, *,e,hp,A7,i3,Option.isSome_some,u5,e2,List.isEmpty_cons,↓c9,↓d9,Nat.reduceAdd,Nat.reduceSub,Nat.reduceMul,Nat.reduceBEq,Nat.reduceLeDiff,Nat.reduceLT,Nat.reduceDiv,Nat.reduceMod]);repeat' ((first|with_reducible first|refine o8 (fun hb=>?_) fun hb=>?_|refine o9 (fun hb=>?_) fun hb=>?_|refine p8 (fun hb=>?_) fun hb=>?_|refine p9 (fun hb=>?_) fun hb=>?_|refine q7 (fun hb=>?_) fun hb=>?_|refine g7 (fun hb=>?_) fun hb=>?_|rw[i0 rfl])<;>try simp(maxSteps:=4000000) (disch:=first|assumption|omega) only[go_sem, *,e,hp,A7,i3,Option.isSome_some,u5,e2,List.isEmpty_cons,↓c9,↓d9,Nat.reduceAdd,Nat.reduceSub,Nat.reduceMul,Nat.reduceBEq,Nat.reduceLeDiff,Nat.reduceLT,Nat.reduceDiv,Nat.reduceMod])
 ·refine⟨.v (.slice none 0 0),?_⟩
  simp only[v7 hlen,Bool.false_and]
  refine y0 true (fun _=>W78.2) W78.1 Tryz.func78 rfl rfl fun c ht hr=>?_;simp only[m7,List.length_cons,List.length_nil,Nat.reduceAdd,e7,and_true]at c;(try simp(maxSteps:=4000000) (disch:=first|assumption|omega) only[go_sem, *,A7,i3,Option.isSome_some,u5,↓c9,↓d9,Nat.reduceAdd,Nat.reduceSub,Nat.reduceMul,Nat.reduceBEq,Nat.reduceLeDiff,Nat.reduceLT,Nat.reduceDiv,Nat.reduceMod]);repeat' ((first|with_reducible first|refine o8 (fun hb=>?_) fun hb=>?_|refine o9 (fun hb=>?_) fun hb=>?_|refine p8 (fun hb=>?_) fun hb=>?_|refine p9 (fun hb=>?_) fun hb=>?_|refine q7 (fun hb=>?_) fun hb=>?_|refine g7 (fun hb=>?_) fun hb=>?_|rw[i0 rfl])<;>try simp(maxSteps:=4000000) (disch:=first|assumption|omega) only[go_sem, *,A7,i3,Option.isSome_some,u5,↓c9,↓d9,Nat.reduceAdd,Nat.reduceSub,Nat.reduceMul,Nat.reduceBEq,Nat.reduceLeDiff,Nat.reduceLT,Nat.reduceDiv,Nat.reduceMod])
end
end Go.Vsi
