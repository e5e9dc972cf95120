/- What the functions of the program, of the reference and of the law do (a part of it). -/
import Derived.Test.YtbjkeppbogdgcaaGreatZXT
import Derived.Lib.Bytealg
namespace Go.Vsi
open Go.Proofs
noncomputable section
set_option maxRecDepth 100000
set_option maxHeartbeats 4000000
set_option linter.unusedSimpArgs false
set_option linter.unusedVariables false
attribute [local go_sem ↓] v6
def L0:Call:=fun f args bs=>match f with
 |81=>match args,bs with
  |[.c (.d (.v (.string s))),.c (.d (.v (.string t)))],[]=>some (.one (.c (.d (.v (.int .i64 (Go.Lib.compareBytes s.data.toList t.data.toList))))),[])
  |_,_=>none
 |111=>match args,bs with
  |[.c (.d (.v (.string s))),.c (.d (.v (.int .u8 c)))],[]=>some (.one (.c (.d (.v (.int .i64 (Go.Lib.indexByte s.data.toList c.toNat.toUInt8))))),[])
  |_,_=>none
 |_=>none
theorem d4i(l:List UInt8):(B l).data.toList=l:=rfl
theorem b2i(s:List UInt8)(c:UInt8):c6 Tryz.prog T L0 111 [.c (.d (.v (.string (B (s))))),.c (.d (.v (.int .u8 ((c.toNat:Int)))))] []=some (.one (.c (.d (.v (.int .i64 (Go.Lib.indexByte s c))))),[]):=by
 refine b8h ?_
 simp only[L0,d4i,Int.toNat_natCast]
 simp
theorem c5p(s t:List UInt8):c6 Tryz.prog T L0 81 [.c (.d (.v (.string (B (s))))),.c (.d (.v (.string (B (t)))))] []=some (.one (.c (.d (.v (.int .i64 (Go.Lib.compareBytes s t))))),[]):=by
 refine b8h ?_
 simp only[L0,d4i]
def rI(xs:List Int):List (List D):=xs.map fun y=>[.v (.int .i64 y)]
theorem A7(a b c:Int):c6 Tryz.prog T L0 58 [.c (.d (.v (.int .i64 (a)))),.c (.d (.v (.int .i64 (b)))),.c (.d (.v (.int .i64 (c))))] []=some (.one (.c (.d (.v (.bool (decide (b<=a∧a<=c)))))),[]):=by
 refine y0 true (fun _=>W58.2) W58.1 Tryz.func58 rfl rfl fun c ht hr=>?_;simp only[m7,List.length_cons,List.length_nil,Nat.reduceAdd,e7,and_true]at c;simp+contextual (maxSteps:=4000000) (disch:=first|assumption|omega) only[go_sem,c,ht,hr,z9,↓B6,↓B7,Nat.reduceAdd,Nat.reduceSub,Nat.reduceMul,Nat.reduceBEq,Nat.reduceLeDiff,↓L3,↓P9,↓Q0,↓if_pos,↓if_neg,H7,F0,H8,F3,C3,Nat.reduceLT,Nat.reduceDiv,Nat.reduceMod,C2,H5,x4,H6]
 split<;>simp[*]
theorem a4i(a b c:Int):c6 Tryz.prog T L0 55 [.c (.d (.v (.int .i64 (a)))),.c (.d (.v (.int .i64 (b)))),.c (.d (.v (.int .i64 (c))))] []=some (.one (.c (.d (.v (.bool (decide (b<=a∧a<=c)))))),[]):=by
 refine y0 true (fun _=>W55.2) W55.1 Tryz.func55 rfl rfl fun c ht hr=>?_;simp only[m7,List.length_cons,List.length_nil,Nat.reduceAdd,e7,and_true]at c;simp+contextual (maxSteps:=4000000) (disch:=first|assumption|omega) only[go_sem,c,ht,hr,z9,↓B6,↓B7,Nat.reduceAdd,Nat.reduceSub,Nat.reduceMul,Nat.reduceBEq,Nat.reduceLeDiff,↓L3,↓P9,↓Q0,↓if_pos,↓if_neg,H7,F0,H8,F3,C3,Nat.reduceLT,Nat.reduceDiv,Nat.reduceMod,C2,H5,x4,H6]
 split<;>simp[*]
theorem a9n(xs:List Int)(at':Int)(hm:xs.length<=maxLen)(ha:0<=at'∧at'<=maxLen): ∀(n:Nat)(i:Int),0<=i->i+n=xs.length->
 g8 Tryz.prog T (c6 Tryz.prog T L0) 99 (cq Tryz.f99 [0,0,1,0,1]) ⟨[J,.one (.c (.d (.v (.int .i64 (at'))))),J,J,J,J,J,.one (.c (.d (.sl 1 (rI xs)))),.one (.c (.d (.v (.int .i64 ((xs.length:Int)))))),.one (.c (.d (.v (.int .i64 (i))))),J,J,J,J,J,J,J,J,J],c7 [],0,0⟩=
  if(xs.drop i.toNat).all (fun k=>decide (0<=k∧k<=at'-1))=true then some (.exit 0,⟨[J,J,J,J,J,J,J,J,J,J,J,J,J,J,J,J,J,J,J],c7 [],0,0⟩)else some (.ret,⟨[J,J,J,J,.one (.c (.d (.v (.bool (false))))),J,J,J,J,J,J,J,J,J,J,J,J,J,J],c7 [],0,0⟩)
 |0,i,h0,hn=>by
  have:maxLen=9223372036854775807:=rfl
  refine D3 true (fun _=>W99.2) W99.1 rfl fun c hl=>?_;simp only[v8,C4,m7,List.length_cons,List.length_nil,Nat.reduceAdd,e7,and_true]at c hl;simp+contextual (maxSteps:=4000000) (disch:=first|assumption|omega) only[go_sem,rI,b0z,List.all_nil,c,hl,z9,↓B6,↓B7,Nat.reduceAdd,Nat.reduceSub,Nat.reduceMul,Nat.reduceBEq,Nat.reduceLeDiff,↓L3,↓P9,↓Q0,↓if_pos,↓if_neg,H7,F0,H8,F3,C3,Nat.reduceLT,Nat.reduceDiv,Nat.reduceMod,C2,H5,x4,H6]
 |n+1,i,h0,hn=>by
  have:maxLen=9223372036854775807:=rfl
  have ih:=a9n xs at' hm ha n (i+1) (by omega) (by omega)
  simp only[rI]at ih
  refine D3 true (fun _=>W99.2) W99.1 rfl fun c hl=>?_;simp only[v8,C4,m7,List.length_cons,List.length_nil,Nat.reduceAdd,e7,and_true]at c hl;simp+contextual (maxSteps:=4000000) (disch:=first|assumption|omega) only[go_sem,rI,A7,ih,b3c,List.all_cons,c,hl,z9,↓B6,↓B7,Nat.reduceAdd,Nat.reduceSub,Nat.reduceMul,Nat.reduceBEq,Nat.reduceLeDiff,↓L3,↓P9,↓Q0,↓if_pos,↓if_neg,H7,F0,H8,F3,C3,Nat.reduceLT,Nat.reduceDiv,Nat.reduceMod,C2,H5,x4,H6]
  clear ih
  grind
theorem c3d(xs:List Int)(at':Int)(hm:xs.length<=maxLen)(ha:0<=at'∧at'<=maxLen):c6 Tryz.prog T L0 99 [.c (.d (.sl 1 (rI xs))),.c (.d (.v (.int .i64 (at'))))] []=some (.one (.c (.d (.v (.bool (xs.all (fun k=>decide (0<=k∧k<=at'-1))))))),[]):=by
 have L:=a9n xs at' hm ha xs.length 0 (by omega) (by omega)
 simp only[rI]at L
 refine y0 true (fun _=>W99.2) W99.1 Tryz.func99 rfl rfl fun c ht hr=>?_;simp only[m7,List.length_cons,List.length_nil,Nat.reduceAdd,e7,and_true]at c;simp+contextual (maxSteps:=4000000) (disch:=first|assumption|omega) only[go_sem,rI,L,c,ht,hr,z9,↓B6,↓B7,Nat.reduceAdd,Nat.reduceSub,Nat.reduceMul,Nat.reduceBEq,Nat.reduceLeDiff,↓L3,↓P9,↓Q0,↓if_pos,↓if_neg,H7,F0,H8,F3,C3,Nat.reduceLT,Nat.reduceDiv,Nat.reduceMod,C2,H5,x4,H6]
 clear L
 grind
def a1q(b:UInt8):Bool:=decide ((97<=(b.toNat:Int)∧(b.toNat:Int)<=122)∨(65<=(b.toNat:Int)∧(b.toNat:Int)<=90))
theorem c5q(b:UInt8):c6 Tryz.prog T L0 61 [.c (.d (.v (.int .u8 ((b.toNat:Int)))))] []=some (.one (.c (.d (.v (.bool (a1q b))))),[]):=by
 refine y0 true (fun _=>W61.2) W61.1 Tryz.func61 rfl rfl fun c ht hr=>?_;simp only[m7,List.length_cons,List.length_nil,Nat.reduceAdd,e7,and_true]at c;simp+contextual (maxSteps:=4000000) (disch:=first|assumption|omega) only[go_sem,A7,a1q,c,ht,hr,z9,↓B6,↓B7,Nat.reduceAdd,Nat.reduceSub,Nat.reduceMul,Nat.reduceBEq,Nat.reduceLeDiff,↓L3,↓P9,↓Q0,↓if_pos,↓if_neg,H7,F0,H8,F3,C3,Nat.reduceLT,Nat.reduceDiv,Nat.reduceMod,C2,H5,x4,H6]
 grind
theorem c3e(b:UInt8):c6 Tryz.prog T L0 67 [.c (.d (.v (.int .u8 ((b.toNat:Int)))))] []=some (.one (.c (.d (.v (.bool (a1q b))))),[]):=by
 refine y0 true (fun _=>W67.2) W67.1 Tryz.func67 rfl rfl fun c ht hr=>?_;simp only[m7,List.length_cons,List.length_nil,Nat.reduceAdd,e7,and_true]at c;simp+contextual (maxSteps:=4000000) (disch:=first|assumption|omega) only[go_sem,a1q,c,ht,hr,z9,↓B6,↓B7,Nat.reduceAdd,Nat.reduceSub,Nat.reduceMul,Nat.reduceBEq,Nat.reduceLeDiff,↓L3,↓P9,↓Q0,↓if_pos,↓if_neg,H7,F0,H8,F3,C3,Nat.reduceLT,Nat.reduceDiv,Nat.reduceMod,C2,H5,x4,H6]
 grind
theorem a9o(s:List UInt8)(hm:s.length<=maxLen): ∀(n:Nat)(i:Int),0<=i->i+n=s.length->
 g8 Tryz.prog T (c6 Tryz.prog T L0) 42 (cq Tryz.f42 [0,0,1,0,1]) ⟨[.one (.c (.d (.v (.string (B (s)))))),J,J,J,J,.one (.c (.d (.v (.int .i64 ((s.length:Int)))))),.one (.c (.d (.v (.int .i64 (i))))),J,J,J,J,J,J,J,J,J,J,J],c7 [],0,0⟩=
  if(s.drop i.toNat).all (fun b=>a1q b)=true then some (.exit 0,⟨[.one (.c (.d (.v (.string (B (s)))))),J,J,J,J,J,J,J,J,J,J,J,J,J,J,J,J,J],c7 [],0,0⟩)else some (.ret,⟨[.one (.c (.d (.v (.string (B (s)))))),J,.one (.c (.d (.v (.bool (false))))),J,J,J,J,J,J,J,J,J,J,J,J,J,J,J],c7 [],0,0⟩)
 |0,i,h0,hn=>by
  have:maxLen=9223372036854775807:=rfl
  refine D3 true (fun _=>W42.2) W42.1 rfl fun c hl=>?_;simp only[v8,C4,m7,List.length_cons,List.length_nil,Nat.reduceAdd,e7,and_true]at c hl;simp+contextual (maxSteps:=4000000) (disch:=first|assumption|omega) only[go_sem,b0z,List.all_nil,c,hl,z9,↓B6,↓B7,Nat.reduceAdd,Nat.reduceSub,Nat.reduceMul,Nat.reduceBEq,Nat.reduceLeDiff,↓L3,↓P9,↓Q0,↓if_pos,↓if_neg,H7,F0,H8,F3,C3,Nat.reduceLT,Nat.reduceDiv,Nat.reduceMod,C2,H5,x4,H6]
 |n+1,i,h0,hn=>by
  have:maxLen=9223372036854775807:=rfl
  have ih:=a9o s hm n (i+1) (by omega) (by omega)
  refine D3 true (fun _=>W42.2) W42.1 rfl fun c hl=>?_;simp only[v8,C4,m7,List.length_cons,List.length_nil,Nat.reduceAdd,e7,and_true]at c hl;simp+contextual (maxSteps:=4000000) (disch:=first|assumption|omega) only[go_sem,ih,b3c,List.all_cons,c5q,c,hl,z9,↓B6,↓B7,Nat.reduceAdd,Nat.reduceSub,Nat.reduceMul,Nat.reduceBEq,Nat.reduceLeDiff,↓L3,↓P9,↓Q0,↓if_pos,↓if_neg,H7,F0,H8,F3,C3,Nat.reduceLT,Nat.reduceDiv,Nat.reduceMod,C2,H5,x4,H6]
  clear ih
  grind
theorem c3f(s:List UInt8)(hm:s.length<=maxLen):c6 Tryz.prog T L0 42 [.c (.d (.v (.string (B (s)))))] []=some (.one (.c (.d (.v (.bool (s.all (fun b=>a1q b)&&decide (1<=(s.length:Int)∧(s.length:Int)<=8)))))),[]):=by
 have L:=a9o s hm s.length 0 (by omega) (by omega)
 refine y0 true (fun _=>W42.2) W42.1 Tryz.func42 rfl rfl fun c ht hr=>?_;simp only[m7,List.length_cons,List.length_nil,Nat.reduceAdd,e7,and_true]at c;simp+contextual (maxSteps:=4000000) (disch:=first|assumption|omega) only[go_sem,A7,L,c,ht,hr,z9,↓B6,↓B7,Nat.reduceAdd,Nat.reduceSub,Nat.reduceMul,Nat.reduceBEq,Nat.reduceLeDiff,↓L3,↓P9,↓Q0,↓if_pos,↓if_neg,H7,F0,H8,F3,C3,Nat.reduceLT,Nat.reduceDiv,Nat.reduceMod,C2,H5,x4,H6]
 clear L
 grind
def U4:List UInt8:=[42,43,63,124,40,41,91,93,46,94,36,92]
theorem a8m(ws:List UInt8)(b:UInt8)(hl:ws.length=12): ∀(n:Nat)(i:Int),0<=i->i+n=ws.length->
 g8 Tryz.prog T (c6 Tryz.prog T L0) 107 (cq Tryz.f107 [0,0,1,0,1,1]) ⟨[.one (.c (.d (.v (.int .u8 ((b.toNat:Int)))))),J,J,.one (.c (.d (.v (.string (B (ws)))))),.one (.c (.d (.v (.int .i64 (i))))),J,J,J,J,J,J,J,J,J,J,J],c7 [],0,0⟩=
  if(ws.drop i.toNat).any (fun c=>decide ((c.toNat:Int)=(b.toNat:Int)))=true then some (.ret,⟨[J,J,.one (.c (.d (.v (.bool (true))))),J,J,J,J,J,J,J,J,J,J,J,J,J],c7 [],0,0⟩)else some (.exit 0,⟨[J,J,J,J,J,J,J,J,J,J,J,J,J,J,J,J],c7 [],0,0⟩)
 |0,i,h0,hn=>by
  refine D3 true (fun _=>b5m.2) b5m.1 rfl fun c hl=>?_;simp only[v8,C4,m7,List.length_cons,List.length_nil,Nat.reduceAdd,e7,and_true]at c hl;simp+contextual (maxSteps:=4000000) (disch:=first|assumption|omega) only[go_sem,hl,b0z,List.any_nil,c,hl,z9,↓B6,↓B7,Nat.reduceAdd,Nat.reduceSub,Nat.reduceMul,Nat.reduceBEq,Nat.reduceLeDiff,↓L3,↓P9,↓Q0,↓if_pos,↓if_neg,H7,F0,H8,F3,C3,Nat.reduceLT,Nat.reduceDiv,Nat.reduceMod,C2,H5,x4,H6]
 |n+1,i,h0,hn=>by
  have ih:=a8m ws b hl n (i+1) (by omega) (by omega)
  refine D3 true (fun _=>b5m.2) b5m.1 rfl fun c hl=>?_;simp only[v8,C4,m7,List.length_cons,List.length_nil,Nat.reduceAdd,e7,and_true]at c hl;simp+contextual (maxSteps:=4000000) (disch:=first|assumption|omega) only[go_sem,hl,ih,b3c,List.any_cons,c,hl,z9,↓B6,↓B7,Nat.reduceAdd,Nat.reduceSub,Nat.reduceMul,Nat.reduceBEq,Nat.reduceLeDiff,↓L3,↓P9,↓Q0,↓if_pos,↓if_neg,H7,F0,H8,F3,C3,Nat.reduceLT,Nat.reduceDiv,Nat.reduceMod,C2,H5,x4,H6]
  clear ih
  grind
theorem a1r(b:UInt8):c6 Tryz.prog T L0 107 [.c (.d (.v (.int .u8 ((b.toNat:Int)))))] []=some (.one (.c (.d (.v (.bool (U4.any (fun c=>decide ((c.toNat:Int)=(b.toNat:Int)))))))),[]):=by
 have L:=a8m [42,43,63,124,40,41,91,93,46,94,36,92] b rfl 12 0 (by omega) rfl
 rw[Int.toNat_zero,List.drop_zero]at L
 unfold U4
 generalize List.any ([42,43,63,124,40,41,91,93,46,94,36,92]:List UInt8) (fun c:UInt8=>decide ((c.toNat:Int)=(b.toNat:Int)))=t at L⊢
 cases t
 all_goals
  simp only[if_true,if_false,Bool.false_eq_true]at L
  refine y0 true (fun _=>b5m.2) b5m.1 Tryz.func107 rfl rfl fun c ht hr=>?_;simp only[m7,List.length_cons,List.length_nil,Nat.reduceAdd,e7,and_true]at c;simp+contextual (maxSteps:=4000000) (disch:=first|assumption|omega) only[go_sem,L,c,ht,hr,z9,↓B6,↓B7,Nat.reduceAdd,Nat.reduceSub,Nat.reduceMul,Nat.reduceBEq,Nat.reduceLeDiff,↓L3,↓P9,↓Q0,↓if_pos,↓if_neg,H7,F0,H8,F3,C3,Nat.reduceLT,Nat.reduceDiv,Nat.reduceMod,C2,H5,x4,H6]
theorem e3k(b:Bool):c6 Tryz.prog T L0 80 [.c (.d (.v (.bool (b))))] []=some (.one (.c (.d (.v (.int .i64 (if b=true then 1 else 0))))),[]):=by
 refine y0 true (fun _=>W80.2) W80.1 Tryz.func80 rfl rfl fun c ht hr=>?_;simp only[m7,List.length_cons,List.length_nil,Nat.reduceAdd,e7,and_true]at c;simp+contextual (maxSteps:=4000000) (disch:=first|assumption|omega) only[go_sem,c,ht,hr,z9,↓B6,↓B7,Nat.reduceAdd,Nat.reduceSub,Nat.reduceMul,Nat.reduceBEq,Nat.reduceLeDiff,↓L3,↓P9,↓Q0,↓if_pos,↓if_neg,H7,F0,H8,F3,C3,Nat.reduceLT,Nat.reduceDiv,Nat.reduceMod,C2,H5,x4,H6]
 grind
theorem e3l(b c:UInt8):decide ((b.toNat:Int)=(c.toNat:Int))=decide (b=c):=by
 rw[decide_eq_decide]
 constructor
 ·intro h;exact UInt8.toNat_inj.1 (by omega)
 ·rintro rfl;rfl
def c1o(f:FuncId)(rd:List UInt8->Bool):Prop:= ∀s:List UInt8,s.length<=maxLen-> ∃d:D,c6 Tryz.prog T L0 f [.c (.d (.v (.string (B (s)))))] []=some (.tup [.agg [.d d],.c (.d (.v (.bool (rd s))))],[])
end
end Go.Vsi
namespace Go.Vsi
open Go.Proofs
noncomputable section
set_option maxRecDepth 100000
set_option maxHeartbeats 4000000
set_option linter.unusedSimpArgs false
set_option linter.unusedVariables false
attribute [local go_sem ↓] v6
def hP(l:List UInt8)(bad:Bool):List (List D)->List (Option k7)
 |[]=>[some (.var [.d (.v (.string (B (l)))),.d (.v (.slice none 0 0)),.d (.v (.bool (bad)))])]
 |p::ps=>[some (.var [.d (.v (.string (B (l)))),.arr 1 0 (ps.length+1),.d (.v (.bool (bad)))]),some (.arr 3 (p::ps))]
def hQ(R0:List (List D))(l:List UInt8)(bad:Bool)(R:List (List D)):List (Option k7):=
 match R0 with
 |[]=>[some (.var [.d (.v (.string (B (l)))),.arr 1 0 R.length,.d (.v (.bool (bad)))]),some (.arr 3 R)]
 |_::_=>[some (.var [.d (.v (.string (B (l)))),.arr 2 0 R.length,.d (.v (.bool (bad)))]),none,some (.arr 3 R)]
theorem a2z:c6 Tryz.prog T L0 98 [.c (.d (.v (.slice none 0 0)))] []=some (.one (.c (.d (.sl 1 ([])))),[]):=by
 exact fns W98 Tryz.func98
theorem c3g(xs:List Int)(h:xs.length<=4):c6 Tryz.prog T L0 98 [.c (.arr 0 0 xs.length)] [some (.arr 1 (rI xs))]=some (.one (.c (.d (.sl 1 (rI xs)))),[some (.arr 1 (rI xs))]):=by
 have hroom:room=70368744177664:=rfl
 have hl:(rI xs).length=xs.length:=by simp[rI]
 have ha:((rI xs).all fun r=>r.length==1)=true:=by simp[rI]
 have ht:(rI xs).take xs.length=rI xs:=List.take_of_length_le (by omega)
 exact fns W98 Tryz.func98
theorem x5(b:UInt8)(l:List UInt8):i8 Tryz.prog (Instr.index 9 (.string (B (b::l))) (.int .i64 0))=some (.one (.c (.d (.v (.int .u8 ((b.toNat:Int))))))):=v6 (b::l) .i64 0 ⟨by omega,by simp⟩
def F8(b:Bool)(l:List UInt8):List UInt8:=match b with|true=>l.drop 1|false=>l
def nx(c:UInt8):List UInt8->Bool
 |[]=>false
 |b::_=>decide ((b.toNat:Int)=(c.toNat:Int))
theorem c1p(c:UInt8)(l:List UInt8)(bad:Bool)(ps:List (List D)):c6 Tryz.prog T L0 96 [.c (.ptr 0 0 0),.c (.d (.v (.int .u8 ((c.toNat:Int)))))] (hP l bad ps)=some (.one (.c (.d (.v (.bool (nx c l))))),hP l bad ps):=by
 cases ps
 all_goals
  cases l with
  |nil=>
   simp only[hP,nx]
   exact fns W96 Tryz.func96
  |cons b l=>
   have e2:((b::l)=[])=False:=by simp
   simp only[hP,nx]
   refine y0 true (fun _=>W96.2) W96.1 Tryz.func96 rfl rfl fun c ht hr=>?_;simp only[m7,List.length_cons,List.length_nil,Nat.reduceAdd,e7,and_true]at c;(try simp(maxSteps:=4000000) (disch:=first|assumption|omega) only[go_sem, *,e2,x5,z9,↓B6,↓B7,Nat.reduceAdd,Nat.reduceSub,Nat.reduceMul,Nat.reduceBEq,Nat.reduceLeDiff,Nat.reduceLT,Nat.reduceDiv,Nat.reduceMod,x4,b0j,K7,a0w]);repeat' ((first|with_reducible first|refine o8 (fun hb=>?_) fun hb=>?_|refine o9 (fun hb=>?_) fun hb=>?_|refine p8 (fun hb=>?_) fun hb=>?_|refine p9 (fun hb=>?_) fun hb=>?_|refine q7 (fun hb=>?_) fun hb=>?_|refine g7 (fun hb=>?_) fun hb=>?_)<;>try simp(maxSteps:=4000000) (disch:=first|assumption|omega) only[go_sem, *,e2,x5,z9,↓B6,↓B7,Nat.reduceAdd,Nat.reduceSub,Nat.reduceMul,Nat.reduceBEq,Nat.reduceLeDiff,Nat.reduceLT,Nat.reduceDiv,Nat.reduceMod,x4,b0j,K7,a0w])
theorem X6(c:UInt8)(l:List UInt8)(bad:Bool)(ps:List (List D)):c6 Tryz.prog T L0 90 [.c (.ptr 0 0 0),.c (.d (.v (.int .u8 ((c.toNat:Int)))))] (hP l bad ps)=some (.one (.c (.d (.v (.bool (nx c l))))),hP (F8 (nx c l) l) bad ps):=by
 have hi:=c1p c l bad ps
 cases ps
 all_goals
  cases l with
  |nil=>
   simp only[hP,nx,F8]at hi⊢
   exact fns W90 Tryz.func90
  |cons b l=>
   simp only[nx]at hi⊢
   generalize decide ((b.toNat:Int)=(c.toNat:Int))=t at hi⊢
   cases t
   all_goals
    simp only[hP,F8]at hi⊢
    have ht:((b::l).drop 1).take ((b::l).length-1)=l:=by simp
    have ht2:(b::l).drop 1=l:=rfl
    have ht3:l.take (l.length+1-1)=l:=by simp
    refine y0 true (fun _=>W90.2) W90.1 Tryz.func90 rfl rfl fun c ht hr=>?_;simp only[m7,List.length_cons,List.length_nil,Nat.reduceAdd,e7,and_true]at c;(try simp(maxSteps:=4000000) (disch:=first|assumption|omega) only[go_sem, *,hi,ht,ht2,ht3,Int.toNat_one,Int.le_refl,z9,↓B6,↓B7,Nat.reduceAdd,Nat.reduceSub,Nat.reduceMul,Nat.reduceBEq,Nat.reduceLeDiff,Nat.reduceLT,Nat.reduceDiv,Nat.reduceMod,x4,b0j,K7,a0w]);repeat' ((first|with_reducible first|refine o8 (fun hb=>?_) fun hb=>?_|refine o9 (fun hb=>?_) fun hb=>?_|refine p8 (fun hb=>?_) fun hb=>?_|refine p9 (fun hb=>?_) fun hb=>?_|refine q7 (fun hb=>?_) fun hb=>?_|refine g7 (fun hb=>?_) fun hb=>?_)<;>try simp(maxSteps:=4000000) (disch:=first|assumption|omega) only[go_sem, *,hi,ht,ht2,ht3,Int.toNat_one,Int.le_refl,z9,↓B6,↓B7,Nat.reduceAdd,Nat.reduceSub,Nat.reduceMul,Nat.reduceBEq,Nat.reduceLeDiff,Nat.reduceLT,Nat.reduceDiv,Nat.reduceMod,x4,b0j,K7,a0w])
def row(op:Int)(t:List UInt8)(ks:List Int):List D:=[.v (.int .i64 (op)),.v (.string (B (t))),.sl 1 (rI ks)]
theorem a4a(op:Int)(t:List UInt8)(l:List UInt8)(bad:Bool)(R:List (List D))(hn:R.length<=100):c6 Tryz.prog T L0 91 [.c (.ptr 0 0 0),.c (.d (.v (.int .i64 (op)))),.c (.d (.v (.string (B (t))))),.c (.d (.v (.slice none 0 0)))] (hP l bad R)=some (.one (.c (.d (.v (.int .i64 ((R.length:Int)))))),hQ R l bad (R++[row op t []])):=by
 have hroom:room=70368744177664:=rfl
 have e:row op t []=[.v (.int .i64 (op)),.v (.string (B (t))),.sl 1 []]:=rfl
 rw[e]
 cases R with
 |nil=>
  simp only[hP,hQ,List.nil_append]
  refine y0 true (fun _=>W91.2) W91.1 Tryz.func91 rfl rfl fun c ht hr=>?_;simp only[m7,List.length_cons,List.length_nil,Nat.reduceAdd,e7,and_true]at c;(try simp(maxSteps:=4000000) (disch:=first|assumption|omega) only[go_sem, *,a2z,i3,Option.isSome_some,↓c9,↓d9,Nat.reduceAdd,Nat.reduceSub,Nat.reduceMul,Nat.reduceBEq,Nat.reduceLeDiff,Nat.reduceLT,Nat.reduceDiv,Nat.reduceMod]);repeat' ((first|with_reducible first|refine o8 (fun hb=>?_) fun hb=>?_|refine o9 (fun hb=>?_) fun hb=>?_|refine p8 (fun hb=>?_) fun hb=>?_|refine p9 (fun hb=>?_) fun hb=>?_|refine q7 (fun hb=>?_) fun hb=>?_|refine g7 (fun hb=>?_) fun hb=>?_|rw[i0 rfl])<;>try simp(maxSteps:=4000000) (disch:=first|assumption|omega) only[go_sem, *,a2z,i3,Option.isSome_some,↓c9,↓d9,Nat.reduceAdd,Nat.reduceSub,Nat.reduceMul,Nat.reduceBEq,Nat.reduceLeDiff,Nat.reduceLT,Nat.reduceDiv,Nat.reduceMod])
  all_goals rfl
 |cons p ps=>
  have hps:ps.length<=99:=by simpa using hn
  obtain⟨R,hR⟩: ∃R,R=p::ps:=⟨_,rfl⟩
  have hl:R.length=ps.length+1:=by rw[hR];rfl
  have ht:R.take (ps.length+1)=R:=List.take_of_length_le (by omega)
  simp only[hP,hQ]
  rw[<-hR]
  clear hR hn
  have hs:((ps.length+1+1:Nat):Int)-1=((ps.length+1:Nat):Int):=by omega
  refine y0 true (fun _=>W91.2) W91.1 Tryz.func91 rfl rfl fun c ht hr=>?_;simp only[m7,List.length_cons,List.length_nil,Nat.reduceAdd,e7,and_true]at c;(try simp(maxSteps:=4000000) (disch:=first|assumption|omega) only[go_sem, *,a2z,i3,Option.isSome_some,hl,ht,hs,List.length_append,↓c9,↓d9,Nat.reduceAdd,Nat.reduceSub,Nat.reduceMul,Nat.reduceBEq,Nat.reduceLeDiff,Nat.reduceLT,Nat.reduceDiv,Nat.reduceMod]);repeat' ((first|with_reducible first|refine o8 (fun hb=>?_) fun hb=>?_|refine o9 (fun hb=>?_) fun hb=>?_|refine p8 (fun hb=>?_) fun hb=>?_|refine p9 (fun hb=>?_) fun hb=>?_|refine q7 (fun hb=>?_) fun hb=>?_|refine g7 (fun hb=>?_) fun hb=>?_|rw[i0 rfl])<;>try simp(maxSteps:=4000000) (disch:=first|assumption|omega) only[go_sem, *,a2z,i3,Option.isSome_some,hl,ht,hs,List.length_append,↓c9,↓d9,Nat.reduceAdd,Nat.reduceSub,Nat.reduceMul,Nat.reduceBEq,Nat.reduceLeDiff,Nat.reduceLT,Nat.reduceDiv,Nat.reduceMod])
theorem B9(op:Int)(t:List UInt8)(ks:List Int)(hk:ks.length<=4)(l:List UInt8)(bad:Bool)(R:List (List D))(n:Nat)(hn:R.length=n)(h1:1<=n∧n<=100):
 c6 Tryz.prog T L0 91 [.c (.ptr 0 0 0),.c (.d (.v (.int .i64 (op)))),.c (.d (.v (.string (B (t))))),.c (.arr 2 0 ks.length)] [some (.var [.d (.v (.string (B (l)))),.arr 1 0 n,.d (.v (.bool (bad)))]),some (.arr 3 R),some (.arr 1 (rI ks))]=
  some (.one (.c (.d (.v (.int .i64 ((n:Int)))))),[some (.var [.d (.v (.string (B (l)))),.arr 3 0 (n+1),.d (.v (.bool (bad)))]),none,some (.arr 1 (rI ks)),some (.arr 3 (R++[row op t ks]))]):=by
 have hroom:room=70368744177664:=rfl
 have e:row op t ks=[.v (.int .i64 (op)),.v (.string (B (t))),.sl 1 (rI ks)]:=rfl
 rw[e]
 have ht:R.take n=R:=List.take_of_length_le (by omega)
 have hs:((n+1:Nat):Int)-1=(n:Int):=by omega
 have hc:=c3g ks hk
 exact fn W91 Tryz.func91
theorem c1h(s:List UInt8)(c:UInt8):c6 Tryz.prog T L0 109 [.c (.d (.v (.string (B (s))))),.c (.d (.v (.int .u8 ((c.toNat:Int)))))] []=some (.one (.c (.d (.v (.int .i64 (Go.Lib.indexByte s c))))),[]):=by
 have h:=b2i s c
 exact fn e8t Tryz.func109
def H9:List UInt8->Option (List UInt8×List UInt8)
 |[]=>none
 |b::l=>if b=93 then some ([],l)else match H9 l with|none=>none|some (x,y)=>some (b::x,y)
theorem c0h: ∀l:List UInt8,H9 l=none->Go.Lib.indexByte l 93= -1
 |[],_=>rfl
 |b::l,h=>by
  unfold H9 at h
  split at h
  ·cases h
  ·rename_i hb
   have:H9 l=none:=by
    revert h
    cases H9 l with
    |none=>intro _;rfl
    |some x=>intro h;cases h
   have ih:=c0h l this
   unfold Go.Lib.indexByte
   rw[ih]
   simp[hb]
theorem a0d: ∀(l x y:List UInt8),H9 l=some (x,y)->l=x++93::y∧Go.Lib.indexByte l 93=x.length
 |[],x,y,h=>by cases h
 |b::l,x,y,h=>by
  unfold H9 at h
  split at h
  ·rename_i hb
   obtain⟨rfl,rfl⟩:=Prod.mk.inj (Option.some.inj h)
   subst hb
   exact⟨rfl,by simp[Go.Lib.indexByte]⟩
  ·rename_i hb
   cases hc:H9 l with
   |none=>rw[hc]at h;cases h
   |some z=>
    obtain⟨x',y'⟩:=z
    rw[hc]at h
    obtain⟨rfl,rfl⟩:=Prod.mk.inj (Option.some.inj h)
    obtain⟨h1,h2⟩:=a0d l x' y' hc
    refine⟨by rw[h1];rfl,?_⟩
    unfold Go.Lib.indexByte
    rw[h2]
    have: ¬(((x'.length:Nat):Int)== -1)=true:=by simp
    simp[hb]
theorem d4j(s:List UInt8)(hs:s.length<=100):c6 Tryz.prog T L0 112 [.c (.d (.v (.string (B (s))))),.c (.d (.v (.string (B ([93])))))] []=some (.one (.c (.d (.v (.int .i64 (Go.Lib.indexByte s 93))))),[]):=by
 have h:=b2i s 93
 have e:((93:UInt8).toNat:Int)=93:=rfl
 rw[e]at h
 have hx:=x5 93 []
 rw[e]at hx
 by_cases hq:[93]=s
 ·subst hq
  have h0:Go.Lib.indexByte [93] 93=0:=by decide
  rw[h0]at h⊢
  exact fn d9d Tryz.func112
 ·have hq2:decide ([93]=s)=false:=by simpa using hq
  exact fn d9d Tryz.func112
theorem e3m(s:List UInt8)(hs:s.length<=100):c6 Tryz.prog T L0 110 [.c (.d (.v (.string (B (s))))),.c (.d (.v (.string (B ([93])))))] []=some (match H9 s with|none=>.tup [.c (.d (.v (.string (B (s))))),.c (.d (.v (.string (B ([]))))),.c (.d (.v (.bool (false))))]|some (x,y)=>.tup [.c (.d (.v (.string (B (x))))),.c (.d (.v (.string (B (y))))),.c (.d (.v (.bool (true))))],[]):=by
 have h:=d4j s hs
 cases hc:H9 s with
 |none=>
  rw[c0h s hc]at h
  refine y0 true (fun _=>c3c.2) c3c.1 Tryz.func110 rfl rfl fun c ht hr=>?_;simp only[m7,List.length_cons,List.length_nil,Nat.reduceAdd,e7,and_true]at c;(try simp(maxSteps:=4000000) (disch:=first|assumption|omega) only[go_sem, *,h,u5,Option.toArray,↓c9,↓d9,Nat.reduceAdd,Nat.reduceSub,Nat.reduceMul,Nat.reduceBEq,Nat.reduceLeDiff,Nat.reduceLT,Nat.reduceDiv,Nat.reduceMod]);repeat' ((first|with_reducible first|refine o8 (fun hb=>?_) fun hb=>?_|refine o9 (fun hb=>?_) fun hb=>?_|refine p8 (fun hb=>?_) fun hb=>?_|refine p9 (fun hb=>?_) fun hb=>?_|refine q7 (fun hb=>?_) fun hb=>?_|refine g7 (fun hb=>?_) fun hb=>?_|rw[i0 rfl])<;>try simp(maxSteps:=4000000) (disch:=first|assumption|omega) only[go_sem, *,h,u5,Option.toArray,↓c9,↓d9,Nat.reduceAdd,Nat.reduceSub,Nat.reduceMul,Nat.reduceBEq,Nat.reduceLeDiff,Nat.reduceLT,Nat.reduceDiv,Nat.reduceMod])
 |some z=>
  obtain⟨x,y⟩:=z
  obtain⟨h1,h2⟩:=a0d s x y hc
  rw[h2]at h
  have hl:s.length=x.length+1+y.length:=by rw[h1];simp;omega
  have t1:(s.drop 0).take (x.length-0)=x:=by rw[h1];simp
  have t2:s.take x.length=x:=by rw[h1];simp
  have t3:(s.drop (x.length+1)).take (x.length+1+y.length-(x.length+1))=y:=by
   rw[h1,show x.length+1+y.length-(x.length+1)=y.length by omega,show x++93::y=(x++[93])++y by simp,List.drop_left' (by simp)]
   simp
  have e1:((x.length:Int)+((1:Nat):Int)).toNat=x.length+1:=by omega
  have e2:(((x.length+1+y.length:Nat):Int)).toNat=x.length+1+y.length:=by omega
  clear hc h1 h2
  refine y0 true (fun _=>c3c.2) c3c.1 Tryz.func110 rfl rfl fun c ht hr=>?_;simp only[m7,List.length_cons,List.length_nil,Nat.reduceAdd,e7,and_true]at c;(try simp(maxSteps:=4000000) (disch:=first|assumption|omega) only[go_sem, *,h,u5,Option.toArray,hl,t2,t3,e1,e2,Nat.sub_zero,Int.toNat_zero,Int.le_refl,↓c9,↓d9,Nat.reduceAdd,Nat.reduceSub,Nat.reduceMul,Nat.reduceBEq,Nat.reduceLeDiff,Nat.reduceLT,Nat.reduceDiv,Nat.reduceMod]);repeat' ((first|with_reducible first|refine o8 (fun hb=>?_) fun hb=>?_|refine o9 (fun hb=>?_) fun hb=>?_|refine p8 (fun hb=>?_) fun hb=>?_|refine p9 (fun hb=>?_) fun hb=>?_|refine q7 (fun hb=>?_) fun hb=>?_|refine g7 (fun hb=>?_) fun hb=>?_|rw[i0 rfl])<;>try simp(maxSteps:=4000000) (disch:=first|assumption|omega) only[go_sem, *,h,u5,Option.toArray,hl,t2,t3,e1,e2,Nat.sub_zero,Int.toNat_zero,Int.le_refl,↓c9,↓d9,Nat.reduceAdd,Nat.reduceSub,Nat.reduceMul,Nat.reduceBEq,Nat.reduceLeDiff,Nat.reduceLT,Nat.reduceDiv,Nat.reduceMod])
theorem e3n(s:List UInt8)(hs:s.length<=100):c6 Tryz.prog T L0 108 [.c (.d (.v (.string (B (s))))),.c (.d (.v (.string (B ([93])))))] []=some (match H9 s with|none=>.tup [.c (.d (.v (.string (B (s))))),.c (.d (.v (.string (B ([]))))),.c (.d (.v (.bool (false))))]|some (x,y)=>.tup [.c (.d (.v (.string (B (x))))),.c (.d (.v (.string (B (y))))),.c (.d (.v (.bool (true))))],[]):=by
 have h:=e3m s hs
 cases hc:H9 s with
 |none=>
  rw[hc]at h
  simp only at h
  clear hc
  refine y0 true (fun _=>c3b.2) c3b.1 Tryz.func108 rfl rfl fun c ht hr=>?_;simp only[m7,List.length_cons,List.length_nil,Nat.reduceAdd,e7,and_true]at c;(try simp(maxSteps:=4000000) (disch:=first|assumption|omega) only[go_sem, *,h,u5,↓c9,↓d9,Nat.reduceAdd,Nat.reduceSub,Nat.reduceMul,Nat.reduceBEq,Nat.reduceLeDiff,Nat.reduceLT,Nat.reduceDiv,Nat.reduceMod]);repeat' ((first|with_reducible first|refine o8 (fun hb=>?_) fun hb=>?_|refine o9 (fun hb=>?_) fun hb=>?_|refine p8 (fun hb=>?_) fun hb=>?_|refine p9 (fun hb=>?_) fun hb=>?_|refine q7 (fun hb=>?_) fun hb=>?_|refine g7 (fun hb=>?_) fun hb=>?_|rw[i0 rfl])<;>try simp(maxSteps:=4000000) (disch:=first|assumption|omega) only[go_sem, *,h,u5,↓c9,↓d9,Nat.reduceAdd,Nat.reduceSub,Nat.reduceMul,Nat.reduceBEq,Nat.reduceLeDiff,Nat.reduceLT,Nat.reduceDiv,Nat.reduceMod])
 |some z=>
  obtain⟨x,y⟩:=z
  rw[hc]at h
  simp only at h
  clear hc
  refine y0 true (fun _=>c3b.2) c3b.1 Tryz.func108 rfl rfl fun c ht hr=>?_;simp only[m7,List.length_cons,List.length_nil,Nat.reduceAdd,e7,and_true]at c;(try simp(maxSteps:=4000000) (disch:=first|assumption|omega) only[go_sem, *,h,u5,↓c9,↓d9,Nat.reduceAdd,Nat.reduceSub,Nat.reduceMul,Nat.reduceBEq,Nat.reduceLeDiff,Nat.reduceLT,Nat.reduceDiv,Nat.reduceMod]);repeat' ((first|with_reducible first|refine o8 (fun hb=>?_) fun hb=>?_|refine o9 (fun hb=>?_) fun hb=>?_|refine p8 (fun hb=>?_) fun hb=>?_|refine p9 (fun hb=>?_) fun hb=>?_|refine q7 (fun hb=>?_) fun hb=>?_|refine g7 (fun hb=>?_) fun hb=>?_|rw[i0 rfl])<;>try simp(maxSteps:=4000000) (disch:=first|assumption|omega) only[go_sem, *,h,u5,↓c9,↓d9,Nat.reduceAdd,Nat.reduceSub,Nat.reduceMul,Nat.reduceBEq,Nat.reduceLeDiff,Nat.reduceLT,Nat.reduceDiv,Nat.reduceMod])
theorem b7g(l:List UInt8)(c:UInt8):decide (0<=Go.Lib.indexByte l c)=l.any (fun x=>decide ((x.toNat:Int)=(c.toNat:Int))):=by
 induction l with
 |nil=>rfl
 |cons a l ih=>
  rw[List.any_cons,<-ih,e3l]
  have hg:=Go.Lib.indexByte_ge l c
  rw[show Go.Lib.indexByte (a::l) c=if a==c then 0 else if Go.Lib.indexByte l c== -1 then-1 else Go.Lib.indexByte l c+1 from rfl]
  by_cases hac:a=c
  ·simp[hac]
  ·simp only[hac,beq_iff_eq,if_false,decide_false,Bool.false_or]
   rw[decide_eq_decide]
   split<;>omega
def a0z(c:UInt8):Bool:=U4.any fun x=>decide ((x.toNat:Int)=(c.toNat:Int))
def O9:List UInt8->Option (List UInt8)
 |[]=>none
 |b::l=>if(b.toNat:Int)=92 then(match l with|[]=>none|c::r=>if a0z c=true then some r else none)else if a0z b=true then none else some l
def Ans(M:Nat)(R0:List (List D))(r:Option (W×List (Option k7)))(R8:List UInt8->Nat->List (List D)->Prop):Option (List UInt8)->Prop
 |some rest=> ∃(a:Nat)(R:List (List D)),r=some (.one (.c (.d (.v (.int .i64 ((a:Int)))))),hQ R0 rest false R)∧R8 rest a R
 |none=> ∃(w:Int)(bs:List (Option k7)),r=some (.one (.c (.d (.v (.int .i64 (w))))),bs)∧((∃l,bs=hP l true R0)∨ ∃l R,1<=R.length∧R.length<=M∧bs=hQ R0 l true R)
theorem b4f(c:UInt8):c6 Tryz.prog T L0 109 [.c (.d (.v (.string (B ([42,43,63,124,40,41,91,93,46,94,36,92]))))),.c (.d (.v (.int .u8 ((c.toNat:Int)))))] []=some (.one (.c (.d (.v (.int .i64 (Go.Lib.indexByte U4 c))))),[]):=c1h U4 c
theorem d4k(M:Nat)(l:List UInt8)(R0:List (List D))(hR:R0.length<=100)(hl:l.length<=30):
 Ans M R0 (c6 Tryz.prog T L0 105 [.c (.ptr 0 0 0)] (hP l false R0)) (fun rest a R=>a=R0.length∧ ∃t,t.length=1∧R=R0++[row 1 t []]) (O9 l):=by
 have e92:((92:UInt8).toNat:Int)=92:=rfl
 cases l with
 |nil=>
  have ht:=X6 92 [] false R0
  simp only[nx,F8,e92]at ht
  refine⟨0,hP [] true R0,?_,.inl ⟨_,rfl⟩⟩
  cases R0
  all_goals
   simp only[hP]at ht⊢
   exact fn a7c Tryz.func105
 |cons b l=>
  have ht:=X6 92 (b::l) false R0
  simp only[nx,e92]at ht
  simp only[O9]
  by_cases hb:(b.toNat:Int)=92
  ·rw[if_pos hb]
   rw[decide_eq_true hb]at ht
   simp only[F8,List.drop_succ_cons,List.drop_zero]at ht
   cases l with
   |nil=>
    refine⟨0,hP [] true R0,?_,.inl ⟨_,rfl⟩⟩
    clear hb
    cases R0
    all_goals
     simp only[hP]at ht⊢
     exact fn a7c Tryz.func105
   |cons c r=>
    have hi:=b4f c
    have hs:=b7g U4 c
    have hx:=x5 c r
    have hp:=a4a 1 [c] r false R0 hR
    have ht3:r.take (r.length+1-1)=r:=by simp
    have e2:((c::r)=[])=False:=by simp
    have h1le:(1:Int)<=((r.length+1:Nat):Int):=by omega
    clear hb
    by_cases hc:a0z c=true
    ·simp only[if_pos hc]
     refine⟨R0.length,R0++[row 1 [c] []],?_,rfl,[c],rfl,rfl⟩
     have hs2:decide (0<=Go.Lib.indexByte U4 c)=true:=by rw[hs];exact hc
     clear hs hc
     cases R0
     all_goals
      simp only[hP,hQ]at ht hp⊢
      refine y0 true (fun _=>a7c.2) a7c.1 Tryz.func105 rfl rfl fun c ht hr=>?_;simp only[m7,List.length_cons,List.length_nil,Nat.reduceAdd,e7,and_true]at c;(try simp(maxSteps:=4000000) (disch:=first|assumption|omega) only[go_sem, *,ht,hi,hs2,hx,hp,ht3,e2,Int.le_refl,Int.toNat_one,Int.toNat_zero,Nat.sub_zero,List.length_append,↓c9,↓d9,Nat.reduceAdd,Nat.reduceSub,Nat.reduceMul,Nat.reduceBEq,Nat.reduceLeDiff,Nat.reduceLT,Nat.reduceDiv,Nat.reduceMod]);repeat' ((first|with_reducible first|refine o8 (fun hb=>?_) fun hb=>?_|refine o9 (fun hb=>?_) fun hb=>?_|refine p8 (fun hb=>?_) fun hb=>?_|refine p9 (fun hb=>?_) fun hb=>?_|refine q7 (fun hb=>?_) fun hb=>?_|refine g7 (fun hb=>?_) fun hb=>?_|rw[i0 rfl])<;>try simp(maxSteps:=4000000) (disch:=first|assumption|omega) only[go_sem, *,ht,hi,hs2,hx,hp,ht3,e2,Int.le_refl,Int.toNat_one,Int.toNat_zero,Nat.sub_zero,List.length_append,↓c9,↓d9,Nat.reduceAdd,Nat.reduceSub,Nat.reduceMul,Nat.reduceBEq,Nat.reduceLeDiff,Nat.reduceLT,Nat.reduceDiv,Nat.reduceMod])
    ·simp only[if_neg hc]
     refine⟨0,hP (c::r) true R0,?_,.inl ⟨_,rfl⟩⟩
     have hs2:decide (0<=Go.Lib.indexByte U4 c)=false:=by rw[hs];simpa [a0z]using hc
     clear hs hc hp
     cases R0
     all_goals
      simp only[hP]at ht⊢
      refine y0 true (fun _=>a7c.2) a7c.1 Tryz.func105 rfl rfl fun c ht hr=>?_;simp only[m7,List.length_cons,List.length_nil,Nat.reduceAdd,e7,and_true]at c;(try simp(maxSteps:=4000000) (disch:=first|assumption|omega) only[go_sem, *,ht,hi,hs2,hx,ht3,e2,Int.le_refl,Int.toNat_one,Int.toNat_zero,Nat.sub_zero,List.length_append,↓c9,↓d9,Nat.reduceAdd,Nat.reduceSub,Nat.reduceMul,Nat.reduceBEq,Nat.reduceLeDiff,Nat.reduceLT,Nat.reduceDiv,Nat.reduceMod]);repeat' ((first|with_reducible first|refine o8 (fun hb=>?_) fun hb=>?_|refine o9 (fun hb=>?_) fun hb=>?_|refine p8 (fun hb=>?_) fun hb=>?_|refine p9 (fun hb=>?_) fun hb=>?_|refine q7 (fun hb=>?_) fun hb=>?_|refine g7 (fun hb=>?_) fun hb=>?_|rw[i0 rfl])<;>try simp(maxSteps:=4000000) (disch:=first|assumption|omega) only[go_sem, *,ht,hi,hs2,hx,ht3,e2,Int.le_refl,Int.toNat_one,Int.toNat_zero,Nat.sub_zero,List.length_append,↓c9,↓d9,Nat.reduceAdd,Nat.reduceSub,Nat.reduceMul,Nat.reduceBEq,Nat.reduceLeDiff,Nat.reduceLT,Nat.reduceDiv,Nat.reduceMod])
  ·rw[if_neg hb]
   rw[decide_eq_false hb]at ht
   simp only[F8]at ht
   have hi:=b4f b
   have hs:=b7g U4 b
   have hx:=x5 b l
   have hp:=a4a 1 [b] l false R0 hR
   have ht3:l.take (l.length+1-1)=l:=by simp
   have e2:((b::l)=[])=False:=by simp
   have h1le:(1:Int)<=((l.length+1:Nat):Int):=by omega
   clear hb
   by_cases hc:a0z b=true
   ·simp only[if_pos hc]
    refine⟨0,hP (b::l) true R0,?_,.inl ⟨_,rfl⟩⟩
    have hs2:decide (0<=Go.Lib.indexByte U4 b)=true:=by rw[hs];exact hc
    clear hs hc hp
    cases R0
    all_goals
     simp only[hP]at ht⊢
     refine y0 true (fun _=>a7c.2) a7c.1 Tryz.func105 rfl rfl fun c ht hr=>?_;simp only[m7,List.length_cons,List.length_nil,Nat.reduceAdd,e7,and_true]at c;(try simp(maxSteps:=4000000) (disch:=first|assumption|omega) only[go_sem, *,ht,hi,hs2,hx,ht3,e2,Int.le_refl,Int.toNat_one,Int.toNat_zero,Nat.sub_zero,List.length_append,↓c9,↓d9,Nat.reduceAdd,Nat.reduceSub,Nat.reduceMul,Nat.reduceBEq,Nat.reduceLeDiff,Nat.reduceLT,Nat.reduceDiv,Nat.reduceMod]);repeat' ((first|with_reducible first|refine o8 (fun hb=>?_) fun hb=>?_|refine o9 (fun hb=>?_) fun hb=>?_|refine p8 (fun hb=>?_) fun hb=>?_|refine p9 (fun hb=>?_) fun hb=>?_|refine q7 (fun hb=>?_) fun hb=>?_|refine g7 (fun hb=>?_) fun hb=>?_|rw[i0 rfl])<;>try simp(maxSteps:=4000000) (disch:=first|assumption|omega) only[go_sem, *,ht,hi,hs2,hx,ht3,e2,Int.le_refl,Int.toNat_one,Int.toNat_zero,Nat.sub_zero,List.length_append,↓c9,↓d9,Nat.reduceAdd,Nat.reduceSub,Nat.reduceMul,Nat.reduceBEq,Nat.reduceLeDiff,Nat.reduceLT,Nat.reduceDiv,Nat.reduceMod])
   ·simp only[if_neg hc]
    refine⟨R0.length,R0++[row 1 [b] []],?_,rfl,[b],rfl,rfl⟩
    have hs2:decide (0<=Go.Lib.indexByte U4 b)=false:=by rw[hs];simpa [a0z]using hc
    clear hs hc
    cases R0
    all_goals
     simp only[hP,hQ]at ht hp⊢
     refine y0 true (fun _=>a7c.2) a7c.1 Tryz.func105 rfl rfl fun c ht hr=>?_;simp only[m7,List.length_cons,List.length_nil,Nat.reduceAdd,e7,and_true]at c;(try simp(maxSteps:=4000000) (disch:=first|assumption|omega) only[go_sem, *,ht,hi,hs2,hx,hp,ht3,e2,Int.le_refl,Int.toNat_one,Int.toNat_zero,Nat.sub_zero,List.length_append,↓c9,↓d9,Nat.reduceAdd,Nat.reduceSub,Nat.reduceMul,Nat.reduceBEq,Nat.reduceLeDiff,Nat.reduceLT,Nat.reduceDiv,Nat.reduceMod]);repeat' ((first|with_reducible first|refine o8 (fun hb=>?_) fun hb=>?_|refine o9 (fun hb=>?_) fun hb=>?_|refine p8 (fun hb=>?_) fun hb=>?_|refine p9 (fun hb=>?_) fun hb=>?_|refine q7 (fun hb=>?_) fun hb=>?_|refine g7 (fun hb=>?_) fun hb=>?_|rw[i0 rfl])<;>try simp(maxSteps:=4000000) (disch:=first|assumption|omega) only[go_sem, *,ht,hi,hs2,hx,hp,ht3,e2,Int.le_refl,Int.toNat_one,Int.toNat_zero,Nat.sub_zero,List.length_append,↓c9,↓d9,Nat.reduceAdd,Nat.reduceSub,Nat.reduceMul,Nat.reduceBEq,Nat.reduceLeDiff,Nat.reduceLT,Nat.reduceDiv,Nat.reduceMod])
end
end Go.Vsi
