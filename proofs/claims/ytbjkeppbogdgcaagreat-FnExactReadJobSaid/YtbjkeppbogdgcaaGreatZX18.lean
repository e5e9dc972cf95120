/- What the functions of the program, of the reference and of the law do (a part of it). -/
import Derived.Test.YtbjkeppbogdgcaaGreatZX16
import Derived.Test.YtbjkeppbogdgcaaGreatZX17
import Derived.Test.YtbjkeppbogdgcaaGreatZX21
namespace Go.Vsi
open Go.Proofs
noncomputable section
set_option maxRecDepth 100000
set_option maxHeartbeats 4000000
set_option linter.unusedSimpArgs false
set_option linter.unusedVariables false
attribute [local go_sem] v6
theorem d4o(k:Nat)(h:Q7 88 F9 1 6 k)(s:List UInt8)(n:Nat)(R0:List (List D))(hn:n<=s.length)(hk:6*(s.length-n)+3<=k+1)(hlen:R0.length+2*(s.length-n)<=58+(1-0))(hs:s.length<=24)(hl:n<s.length)(c94: ¬(s[n].toNat:Int)=94)(c36: ¬(s[n].toNat:Int)=36)(c46: ¬(s[n].toNat:Int)=46)(c91: ¬(s[n].toNat:Int)=91)(c40: ¬(s[n].toNat:Int)=40)(c92: ¬(s[n].toNat:Int)=92)(hsp:a0z s[n]=true):R7 s (R0.length+2*(s.length-n)+2*0+1) R0 (c6 Tryz.prog T L0 102 [.c (.ptr 0 0 0)] (hS s n false R0)) (Y6 0 s n R0) (y7 (k+1) (s.drop n)):=by
 have hi:=E8 s n hl
 have hl2: ¬(s.length:Int)<=(n:Int):=by omega
 have hl3:(n:Int)<(s.length:Int):=by omega
 have ec1:((n+1:Nat):Int)=(n:Int)+1:=by omega
 have ec2:((n+1+1:Nat):Int)=(n:Int)+1+1:=by omega
 rw[List.drop_eq_getElem_cons hl]
 simp only[y7,nx,List.drop_succ_cons,List.drop_zero,show((94:UInt8).toNat:Int)=94 from rfl,show((36:UInt8).toNat:Int)=36 from rfl,show((46:UInt8).toNat:Int)=46 from rfl,show((91:UInt8).toNat:Int)=91 from rfl,show((40:UInt8).toNat:Int)=40 from rfl]
 generalize s[n]=b at hi c94 c36 c46 c91 c40 c92 hsp⊢
 have q94:f8 (b.toNat:Int) 94=false:=by simp[f8,c94]
 simp only[v7 c94]
 clear c94
 have q36:f8 (b.toNat:Int) 36=false:=by simp[f8,c36]
 simp only[v7 c36]
 clear c36
 have q46:f8 (b.toNat:Int) 46=false:=by simp[f8,c46]
 simp only[v7 c46]
 clear c46
 have q91:f8 (b.toNat:Int) 91=false:=by simp[f8,c91]
 simp only[v7 c91]
 clear c91
 have q40:f8 (b.toNat:Int) 40=false:=by simp[f8,c40]
 simp only[v7 c40]
 clear c40
 have q92:f8 (b.toNat:Int) 92=false:=by simp[f8,c92]
 simp only[O9,if_neg c92]
 clear c92
 have hd:=a1r b
 rw[show(U4.any fun c=>decide ((c.toNat:Int)=(b.toNat:Int)))=a0z b from rfl,hsp]at hd
 simp only[hsp]
 clear hsp h
 simp only[if_true]
 refine⟨0,hS s n true R0,?_,.inl ⟨_,rfl⟩⟩
 clear hlen
 cases R0
 all_goals
  simp only[hS,hT]
  exact fn R6 Tryz.func102
theorem d4p(k:Nat)(h:Q7 88 F9 1 6 k)(s:List UInt8)(n:Nat)(R0:List (List D))(hn:n<=s.length)(hk:6*(s.length-n)+3<=k+1)(hlen:R0.length+2*(s.length-n)<=58+(1-0))(hs:s.length<=24)(hl:n<s.length)(c94: ¬(s[n].toNat:Int)=94)(c36: ¬(s[n].toNat:Int)=36)(c46: ¬(s[n].toNat:Int)=46)(c91: ¬(s[n].toNat:Int)=91)(c40: ¬(s[n].toNat:Int)=40)(c92: ¬(s[n].toNat:Int)=92)(hsp:a0z s[n]=false):R7 s (R0.length+2*(s.length-n)+2*0+1) R0 (c6 Tryz.prog T L0 102 [.c (.ptr 0 0 0)] (hS s n false R0)) (Y6 0 s n R0) (y7 (k+1) (s.drop n)):=by
 have hi:=E8 s n hl
 have hl2: ¬(s.length:Int)<=(n:Int):=by omega
 have hl3:(n:Int)<(s.length:Int):=by omega
 have ec1:((n+1:Nat):Int)=(n:Int)+1:=by omega
 have ec2:((n+1+1:Nat):Int)=(n:Int)+1+1:=by omega
 rw[List.drop_eq_getElem_cons hl]
 simp only[y7,nx,List.drop_succ_cons,List.drop_zero,show((94:UInt8).toNat:Int)=94 from rfl,show((36:UInt8).toNat:Int)=36 from rfl,show((46:UInt8).toNat:Int)=46 from rfl,show((91:UInt8).toNat:Int)=91 from rfl,show((40:UInt8).toNat:Int)=40 from rfl]
 generalize s[n]=b at hi c94 c36 c46 c91 c40 c92 hsp⊢
 have q94:f8 (b.toNat:Int) 94=false:=by simp[f8,c94]
 simp only[v7 c94]
 clear c94
 have q36:f8 (b.toNat:Int) 36=false:=by simp[f8,c36]
 simp only[v7 c36]
 clear c36
 have q46:f8 (b.toNat:Int) 46=false:=by simp[f8,c46]
 simp only[v7 c46]
 clear c46
 have q91:f8 (b.toNat:Int) 91=false:=by simp[f8,c91]
 simp only[v7 c91]
 clear c91
 have q40:f8 (b.toNat:Int) 40=false:=by simp[f8,c40]
 simp only[v7 c40]
 clear c40
 have q92:f8 (b.toNat:Int) 92=false:=by simp[f8,c92]
 simp only[O9,if_neg c92]
 clear c92
 have hd:=a1r b
 rw[show(U4.any fun c=>decide ((c.toNat:Int)=(b.toNat:Int)))=a0z b from rfl,hsp]at hd
 simp only[hsp]
 clear hsp h
 simp only[Bool.false_eq_true,if_false]
 have hp:=U5 1 [b] s (n+1) false R0 (by omega)
 refine⟨R0.length,n+1,R0++[[.v (.int .i64 (1)),.v (.string (B ([b]))),.v (.slice none 0 0)]],?_,by omega,rfl,⟨by simp,by simp;omega⟩,by omega⟩
 clear hlen
 cases R0
 all_goals
  simp only[hS,hT,ec1,ec2]at hp⊢
  refine y0 true (fun _=>R6.2) R6.1 Tryz.func102 rfl rfl fun c ht hr=>?_;simp only[m7,List.length_cons,List.length_nil,Nat.reduceAdd,e7,and_true]at c;(try simp(maxSteps:=4000000) (disch:=first|assumption|omega) only[go_sem, *,i3,Option.isSome_some,hi,hl2,hl3,hp,hd,c1q,w8,List.mapM_cons,List.mapM_nil,Option.pure_def,Option.bind_eq_bind,Option.bind_some,List.toList_toArray,List.length_append,↓c9,↓d9,Nat.reduceAdd,Nat.reduceSub,Nat.reduceMul,Nat.reduceBEq,Nat.reduceLeDiff,Nat.reduceLT,Nat.reduceDiv,Nat.reduceMod]);repeat' ((first|with_reducible first|refine o8 (fun hb=>?_) fun hb=>?_|refine o9 (fun hb=>?_) fun hb=>?_|refine p8 (fun hb=>?_) fun hb=>?_|refine p9 (fun hb=>?_) fun hb=>?_|refine q7 (fun hb=>?_) fun hb=>?_|refine g7 (fun hb=>?_) fun hb=>?_|rw[i0 rfl])<;>try simp(maxSteps:=4000000) (disch:=first|assumption|omega) only[go_sem, *,i3,Option.isSome_some,hi,hl2,hl3,hp,hd,c1q,w8,List.mapM_cons,List.mapM_nil,Option.pure_def,Option.bind_eq_bind,Option.bind_some,List.toList_toArray,List.length_append,↓c9,↓d9,Nat.reduceAdd,Nat.reduceSub,Nat.reduceMul,Nat.reduceBEq,Nat.reduceLeDiff,Nat.reduceLT,Nat.reduceDiv,Nat.reduceMod])
theorem d4q(k:Nat)(h:Q7 88 F9 1 6 k):Q7 102 y7 0 3 (k+1):=by
 intro s n R0 hn hk hlen hs
 by_cases hl:n<s.length
 ·by_cases c94:(s[n].toNat:Int)=94
  ·exact d4l k h s n R0 hn hk hlen hs hl c94
  by_cases c36:(s[n].toNat:Int)=36
  ·exact d4m k h s n R0 hn hk hlen hs hl c94 c36
  by_cases c46:(s[n].toNat:Int)=46
  ·exact d4n k h s n R0 hn hk hlen hs hl c94 c36 c46
  by_cases c91:(s[n].toNat:Int)=91
  ·cases hm:T3 (s.drop (n+1))with
   |none=>exact d0q k h s n R0 hn hk hlen hs hl c94 c36 c46 c91 hm
   |some rest=>exact d0r k h s n R0 hn hk hlen hs hl c94 c36 c46 c91 rest hm
  by_cases c40:(s[n].toNat:Int)=40
  ·cases hm:F9 k (s.drop (n+1))with
   |none=>exact d0s k h s n R0 hn hk hlen hs hl c94 c36 c46 c91 c40 hm
   |some rest=>
    cases hx:nx 41 rest with
    |true=>exact d0t k h s n R0 hn hk hlen hs hl c94 c36 c46 c91 c40 rest hm hx
    |false=>exact d0u k h s n R0 hn hk hlen hs hl c94 c36 c46 c91 c40 rest hm hx
  by_cases c92:(s[n].toNat:Int)=92
  ·by_cases hm:n+1<s.length
   ·cases hsp:a0z s[n+1]with
    |true=>exact d0x k h s n R0 hn hk hlen hs hl c94 c36 c46 c91 c40 c92 hm hsp
    |false=>exact d0w k h s n R0 hn hk hlen hs hl c94 c36 c46 c91 c40 c92 hm hsp
   ·exact d0v k h s n R0 hn hk hlen hs hl c94 c36 c46 c91 c40 c92 hm
  cases hsp:a0z s[n]with
  |true=>exact d4o k h s n R0 hn hk hlen hs hl c94 c36 c46 c91 c40 c92 hsp
  |false=>exact d4p k h s n R0 hn hk hlen hs hl c94 c36 c46 c91 c40 c92 hsp
 ·have hl2:(s.length:Int)<=(n:Int):=by omega
  rw[List.drop_eq_nil_of_le (by omega)]
  clear h
  simp only[y7,nx,O9]
  refine⟨0,hS s n true R0,?_,.inl ⟨_,rfl⟩⟩
  clear hlen
  cases R0
  all_goals
   simp only[hS]
   exact fn R6 Tryz.func102
theorem I4(op:Int)(t:List UInt8)(ks:List Int)(hk:ks.length<=4)(s:List UInt8)(i:Nat)(R:List (List D))(n:Nat)(hn:R.length=n)(h1:1<=n∧n<=100):
  c6 Tryz.prog T L0 95 [.c (.ptr 0 0 0),.agg [.d (.v (.int .i64 (op))),.d (.v (.string (B (t)))),.arr 2 0 ks.length]] [some (.var [.d (.v (.string (B (s)))),.d (.v (.int .i64 ((i:Int)))),.d (.v (.bool (true))),.arr 1 0 n]),some (.arr 3 R),some (.arr 1 (rI ks))]=
   some (.one (.c (.d (.v (.int .i64 ((n:Int)))))),[some (.var [.d (.v (.string (B (s)))),.d (.v (.int .i64 ((i:Int)))),.d (.v (.bool (true))),.arr 3 0 (n+1)]),none,none,some (.arr 3 (R++[row op t ks]))]):=by
 have hroom:room=70368744177664:=rfl
 have e:row op t ks=[.v (.int .i64 (op)),.v (.string (B (t))),.sl 1 (rI ks)]:=rfl
 rw[e]
 have ht:R.take n=R:=List.take_of_length_le (by omega)
 have hkt:(rI ks).take ks.length=rI ks:=List.take_of_length_le (by simp[rI])
 have hs:((n+1:Nat):Int)-1=(n:Int):=by omega
 exact fn W95 Tryz.func95
theorem b4g(s:List UInt8)(hs:s.length<=24): ∀(m n a:Nat)(R:List (List D)),n+m=s.length->1<=R.length->R.length+(s.length-n)<=59->
  ∃(a' n':Nat)(R':List (List D)),n'<=s.length∧z8 (s.drop n)=s.drop n'∧R.length<=R'.length∧R'.length+(s.length-n')=R.length+(s.length-n)∧
  g8 Tryz.prog T (c6 Tryz.prog T L0) 100 (cq Tryz.f100 [0,0,0,1,1]) ⟨[.one (.c (.ptr 0 0 0)),J,J,.one (.c (.d (.v (.int .i64 ((a:Int)))))),J,J,J,J,J,J,J,J,J,J,J,J,J,J,J,J,J,J,J,J,J,J,J,J,J,J,J,J,J,J,J,J,J,J,J,J,J,J,J,J,J,J,J,J,J,J,J,J],c7 [some (.var [.d (.v (.string (B (s)))),.d (.v (.int .i64 ((n:Int)))),.d (.v (.bool (false))),.arr 1 0 R.length]),some (.arr 3 R)],2,1⟩=some (.exit 0,⟨[J,J,J,.one (.c (.d (.v (.int .i64 ((a':Int)))))),J,J,J,J,J,J,J,J,J,J,J,J,J,J,J,J,J,J,J,J,J,J,J,J,J,J,J,J,J,J,J,J,J,J,J,J,J,J,J,J,J,J,J,J,J,J,J,J],c7 [some (.var [.d (.v (.string (B (s)))),.d (.v (.int .i64 ((n':Int)))),.d (.v (.bool (false))),.arr 1 0 R'.length]),some (.arr 3 R')],2,1⟩)
 |0,n,a,R,hm,h1,hR=>by
  have j1:=D8 42 s n (by omega) hs R h1
  have j2:=D8 43 s n (by omega) hs R h1
  have j3:=D8 63 s n (by omega) hs R h1
  rw[List.drop_eq_nil_of_le (by omega)]at j1 j2 j3⊢
  simp only[nx,show((42:UInt8).toNat:Int)=42 from rfl,show((43:UInt8).toNat:Int)=43 from rfl,show((63:UInt8).toNat:Int)=63 from rfl]at j1 j2 j3
  refine⟨a,n,R,by omega,by rw[List.drop_eq_nil_of_le (by omega)];rfl,by omega,by omega,?_⟩
  clear hR
  exact lp O1
 |m+1,n,a,R,hm,h1,hR=>by
  have hl:n<s.length:=by omega
  have hi:=E8 s n hl
  have j1:=D8 42 s n (by omega) hs R h1
  have j2:=D8 43 s n (by omega) hs R h1
  have j3:=D8 63 s n (by omega) hs R h1
  have ec:((n+1:Nat):Int)=(n:Int)+1:=by omega
  have hl2:(n:Int)<(s.length:Int):=by omega
  have hdr:=List.drop_eq_getElem_cons hl
  rw[hdr]at j1 j2 j3
  simp only[nx,show((42:UInt8).toNat:Int)=42 from rfl,show((43:UInt8).toNat:Int)=43 from rfl,show((63:UInt8).toNat:Int)=63 from rfl]at j1 j2 j3
  generalize s[n]=b at hi hdr j1 j2 j3
  have ih:=fun op=>b4g s hs m (n+1) R.length (R++[row op [] [(a:Int)]]) (by omega) (by simp) (by simp;omega)
  have hp:=fun op=>a2f op [] [(a:Int)] (by simp) s (n+1) false R R.length rfl ⟨by omega,by omega⟩
  by_cases c42:(b.toNat:Int)=42
  ·have hr:A5 b=true:=by simp[A5,c42]
   obtain⟨a',n',R',q1,q2,q3,q4,q5⟩:=ih 7
   refine⟨a',n',R',q1,by rw[hdr];simp only[z8,hr];exact q2,by simp at q3;omega,by simp at q4;omega,?_⟩
   replace hp:=hp 7
   rw[c42]at hi j1 j2 j3
   simp only[decide_true,show decide ((42:Int)=43)=false from rfl,show decide ((42:Int)=63)=false from rfl,show decide ((43:Int)=63)=false from rfl,show decide ((43:Int)=42)=false from rfl,show decide ((63:Int)=42)=false from rfl,show decide ((63:Int)=43)=false from rfl]at j1 j2 j3
   simp only[rI,List.map_cons,List.map_nil,List.length_cons,List.length_nil,Nat.zero_add,Nat.reduceAdd,ec,List.length_append]at hp q5
   rw[<-q5]
   clear q5 ih q1 q2 q3 q4 hr hdr c42 hR hm
   refine D3 true (fun _=>O1.2) O1.1 rfl fun c hl=>?_;simp only[v8,C4,m7,List.length_cons,List.length_nil,Nat.reduceAdd,e7,and_true]at c hl;(try simp(maxSteps:=4000000) (disch:=first|assumption|omega) only[go_sem, *,i3,Option.isSome_some,hi,hl2,j1,j2,j3,hp,n6,List.length_append,↓c9,↓d9,Nat.reduceAdd,Nat.reduceSub,Nat.reduceMul,Nat.reduceBEq,Nat.reduceLeDiff,Nat.reduceLT,Nat.reduceDiv,Nat.reduceMod]);repeat' ((first|with_reducible first|refine o8 (fun hb=>?_) fun hb=>?_|refine o9 (fun hb=>?_) fun hb=>?_|refine p8 (fun hb=>?_) fun hb=>?_|refine p9 (fun hb=>?_) fun hb=>?_|refine q7 (fun hb=>?_) fun hb=>?_|refine g7 (fun hb=>?_) fun hb=>?_|rw[i0 rfl])<;>try simp(maxSteps:=4000000) (disch:=first|assumption|omega) only[go_sem, *,i3,Option.isSome_some,hi,hl2,j1,j2,j3,hp,n6,List.length_append,↓c9,↓d9,Nat.reduceAdd,Nat.reduceSub,Nat.reduceMul,Nat.reduceBEq,Nat.reduceLeDiff,Nat.reduceLT,Nat.reduceDiv,Nat.reduceMod])
  by_cases c43:(b.toNat:Int)=43
  ·have hr:A5 b=true:=by simp[A5,c43]
   obtain⟨a',n',R',q1,q2,q3,q4,q5⟩:=ih 8
   refine⟨a',n',R',q1,by rw[hdr];simp only[z8,hr];exact q2,by simp at q3;omega,by simp at q4;omega,?_⟩
   replace hp:=hp 8
   rw[c43]at hi j1 j2 j3
   simp only[decide_true,show decide ((42:Int)=43)=false from rfl,show decide ((42:Int)=63)=false from rfl,show decide ((43:Int)=63)=false from rfl,show decide ((43:Int)=42)=false from rfl,show decide ((63:Int)=42)=false from rfl,show decide ((63:Int)=43)=false from rfl]at j1 j2 j3
   simp only[rI,List.map_cons,List.map_nil,List.length_cons,List.length_nil,Nat.zero_add,Nat.reduceAdd,ec,List.length_append]at hp q5
   rw[<-q5]
   clear q5 ih q1 q2 q3 q4 hr hdr c43 c42 hR hm
   refine D3 true (fun _=>O1.2) O1.1 rfl fun c hl=>?_;simp only[v8,C4,m7,List.length_cons,List.length_nil,Nat.reduceAdd,e7,and_true]at c hl;(try simp(maxSteps:=4000000) (disch:=first|assumption|omega) only[go_sem, *,i3,Option.isSome_some,hi,hl2,j1,j2,j3,hp,n6,List.length_append,↓c9,↓d9,Nat.reduceAdd,Nat.reduceSub,Nat.reduceMul,Nat.reduceBEq,Nat.reduceLeDiff,Nat.reduceLT,Nat.reduceDiv,Nat.reduceMod]);repeat' ((first|with_reducible first|refine o8 (fun hb=>?_) fun hb=>?_|refine o9 (fun hb=>?_) fun hb=>?_|refine p8 (fun hb=>?_) fun hb=>?_|refine p9 (fun hb=>?_) fun hb=>?_|refine q7 (fun hb=>?_) fun hb=>?_|refine g7 (fun hb=>?_) fun hb=>?_|rw[i0 rfl])<;>try simp(maxSteps:=4000000) (disch:=first|assumption|omega) only[go_sem, *,i3,Option.isSome_some,hi,hl2,j1,j2,j3,hp,n6,List.length_append,↓c9,↓d9,Nat.reduceAdd,Nat.reduceSub,Nat.reduceMul,Nat.reduceBEq,Nat.reduceLeDiff,Nat.reduceLT,Nat.reduceDiv,Nat.reduceMod])
  by_cases c63:(b.toNat:Int)=63
  ·have hr:A5 b=true:=by simp[A5,c63]
   obtain⟨a',n',R',q1,q2,q3,q4,q5⟩:=ih 9
   refine⟨a',n',R',q1,by rw[hdr];simp only[z8,hr];exact q2,by simp at q3;omega,by simp at q4;omega,?_⟩
   replace hp:=hp 9
   rw[c63]at hi j1 j2 j3
   simp only[decide_true,show decide ((42:Int)=43)=false from rfl,show decide ((42:Int)=63)=false from rfl,show decide ((43:Int)=63)=false from rfl,show decide ((43:Int)=42)=false from rfl,show decide ((63:Int)=42)=false from rfl,show decide ((63:Int)=43)=false from rfl]at j1 j2 j3
   simp only[rI,List.map_cons,List.map_nil,List.length_cons,List.length_nil,Nat.zero_add,Nat.reduceAdd,ec,List.length_append]at hp q5
   rw[<-q5]
   clear q5 ih q1 q2 q3 q4 hr hdr c63 c42 c43 hR hm
   refine D3 true (fun _=>O1.2) O1.1 rfl fun c hl=>?_;simp only[v8,C4,m7,List.length_cons,List.length_nil,Nat.reduceAdd,e7,and_true]at c hl;(try simp(maxSteps:=4000000) (disch:=first|assumption|omega) only[go_sem, *,i3,Option.isSome_some,hi,hl2,j1,j2,j3,hp,n6,List.length_append,↓c9,↓d9,Nat.reduceAdd,Nat.reduceSub,Nat.reduceMul,Nat.reduceBEq,Nat.reduceLeDiff,Nat.reduceLT,Nat.reduceDiv,Nat.reduceMod]);repeat' ((first|with_reducible first|refine o8 (fun hb=>?_) fun hb=>?_|refine o9 (fun hb=>?_) fun hb=>?_|refine p8 (fun hb=>?_) fun hb=>?_|refine p9 (fun hb=>?_) fun hb=>?_|refine q7 (fun hb=>?_) fun hb=>?_|refine g7 (fun hb=>?_) fun hb=>?_|rw[i0 rfl])<;>try simp(maxSteps:=4000000) (disch:=first|assumption|omega) only[go_sem, *,i3,Option.isSome_some,hi,hl2,j1,j2,j3,hp,n6,List.length_append,↓c9,↓d9,Nat.reduceAdd,Nat.reduceSub,Nat.reduceMul,Nat.reduceBEq,Nat.reduceLeDiff,Nat.reduceLT,Nat.reduceDiv,Nat.reduceMod])
  have hr:A5 b=false:=by simp[A5,c42,c43,c63]
  simp only[v7 c42,v7 c43,v7 c63]at j1 j2 j3
  refine⟨a,n,R,by omega,by rw[hdr];simp only[z8,hr],by omega,by omega,?_⟩
  clear ih hp hr hdr c42 c43 c63 hR hm
  exact lp O1
theorem b4h(s:List UInt8)(hs:s.length<=24): ∀(m n a:Nat)(R:List (List D)),n+m=s.length->1<=R.length->R.length+(s.length-n)<=59->
  ∃(a' n':Nat)(R':List (List D)),n'<=s.length∧z8 (s.drop n)=s.drop n'∧R.length<=R'.length∧R'.length+(s.length-n')=R.length+(s.length-n)∧
  g8 Tryz.prog T (c6 Tryz.prog T L0) 100 (cq Tryz.f100 [0,0,0,1,1]) ⟨[.one (.c (.ptr 0 0 0)),J,J,.one (.c (.d (.v (.int .i64 ((a:Int)))))),J,J,J,J,J,J,J,J,J,J,J,J,J,J,J,J,J,J,J,J,J,J,J,J,J,J,J,J,J,J,J,J,J,J,J,J,J,J,J,J,J,J,J,J,J,J,J,J],c7 [some (.var [.d (.v (.string (B (s)))),.d (.v (.int .i64 ((n:Int)))),.d (.v (.bool (false))),.arr 2 0 R.length]),none,some (.arr 3 R)],3,2⟩=some (.exit 0,⟨[J,J,J,.one (.c (.d (.v (.int .i64 ((a':Int)))))),J,J,J,J,J,J,J,J,J,J,J,J,J,J,J,J,J,J,J,J,J,J,J,J,J,J,J,J,J,J,J,J,J,J,J,J,J,J,J,J,J,J,J,J,J,J,J,J],c7 [some (.var [.d (.v (.string (B (s)))),.d (.v (.int .i64 ((n':Int)))),.d (.v (.bool (false))),.arr 2 0 R'.length]),none,some (.arr 3 R')],3,2⟩)
 |0,n,a,R,hm,h1,hR=>by
  have j1:=D8 42 s n (by omega) hs R h1
  have j2:=D8 43 s n (by omega) hs R h1
  have j3:=D8 63 s n (by omega) hs R h1
  rw[List.drop_eq_nil_of_le (by omega)]at j1 j2 j3⊢
  simp only[nx,show((42:UInt8).toNat:Int)=42 from rfl,show((43:UInt8).toNat:Int)=43 from rfl,show((63:UInt8).toNat:Int)=63 from rfl]at j1 j2 j3
  refine⟨a,n,R,by omega,by rw[List.drop_eq_nil_of_le (by omega)];rfl,by omega,by omega,?_⟩
  clear hR
  exact lp O1
 |m+1,n,a,R,hm,h1,hR=>by
  have hl:n<s.length:=by omega
  have hi:=E8 s n hl
  have j1:=D8 42 s n (by omega) hs R h1
  have j2:=D8 43 s n (by omega) hs R h1
  have j3:=D8 63 s n (by omega) hs R h1
  have ec:((n+1:Nat):Int)=(n:Int)+1:=by omega
  have hl2:(n:Int)<(s.length:Int):=by omega
  have hdr:=List.drop_eq_getElem_cons hl
  rw[hdr]at j1 j2 j3
  simp only[nx,show((42:UInt8).toNat:Int)=42 from rfl,show((43:UInt8).toNat:Int)=43 from rfl,show((63:UInt8).toNat:Int)=63 from rfl]at j1 j2 j3
  generalize s[n]=b at hi hdr j1 j2 j3
  have ih:=fun op=>b4h s hs m (n+1) R.length (R++[row op [] [(a:Int)]]) (by omega) (by simp) (by simp;omega)
  have hp:=fun op=>a2f op [] [(a:Int)] (by simp) s (n+1) false R R.length rfl ⟨by omega,by omega⟩
  by_cases c42:(b.toNat:Int)=42
  ·have hr:A5 b=true:=by simp[A5,c42]
   obtain⟨a',n',R',q1,q2,q3,q4,q5⟩:=ih 7
   refine⟨a',n',R',q1,by rw[hdr];simp only[z8,hr];exact q2,by simp at q3;omega,by simp at q4;omega,?_⟩
   replace hp:=hp 7
   rw[c42]at hi j1 j2 j3
   simp only[decide_true,show decide ((42:Int)=43)=false from rfl,show decide ((42:Int)=63)=false from rfl,show decide ((43:Int)=63)=false from rfl,show decide ((43:Int)=42)=false from rfl,show decide ((63:Int)=42)=false from rfl,show decide ((63:Int)=43)=false from rfl]at j1 j2 j3
   simp only[rI,List.map_cons,List.map_nil,List.length_cons,List.length_nil,Nat.zero_add,Nat.reduceAdd,ec,List.length_append]at hp q5
   rw[<-q5]
   clear q5 ih q1 q2 q3 q4 hr hdr c42 hR hm
   refine D3 true (fun _=>O1.2) O1.1 rfl fun c hl=>?_;simp only[v8,C4,m7,List.length_cons,List.length_nil,Nat.reduceAdd,e7,and_true]at c hl;(try simp(maxSteps:=4000000) (disch:=first|assumption|omega) only[go_sem, *,i3,Option.isSome_some,hi,hl2,j1,j2,j3,hp,n6,List.length_append,↓c9,↓d9,Nat.reduceAdd,Nat.reduceSub,Nat.reduceMul,Nat.reduceBEq,Nat.reduceLeDiff,Nat.reduceLT,Nat.reduceDiv,Nat.reduceMod]);repeat' ((first|with_reducible first|refine o8 (fun hb=>?_) fun hb=>?_|refine o9 (fun hb=>?_) fun hb=>?_|refine p8 (fun hb=>?_) fun hb=>?_|refine p9 (fun hb=>?_) fun hb=>?_|refine q7 (fun hb=>?_) fun hb=>?_|refine g7 (fun hb=>?_) fun hb=>?_|rw[i0 rfl])<;>try simp(maxSteps:=4000000) (disch:=first|assumption|omega) only[go_sem, *,i3,Option.isSome_some,hi,hl2,j1,j2,j3,hp,n6,List.length_append,↓c9,↓d9,Nat.reduceAdd,Nat.reduceSub,Nat.reduceMul,Nat.reduceBEq,Nat.reduceLeDiff,Nat.reduceLT,Nat.reduceDiv,Nat.reduceMod])
  by_cases c43:(b.toNat:Int)=43
  ·have hr:A5 b=true:=by simp[A5,c43]
   obtain⟨a',n',R',q1,q2,q3,q4,q5⟩:=ih 8
   refine⟨a',n',R',q1,by rw[hdr];simp only[z8,hr];exact q2,by simp at q3;omega,by simp at q4;omega,?_⟩
   replace hp:=hp 8
   rw[c43]at hi j1 j2 j3
   simp only[decide_true,show decide ((42:Int)=43)=false from rfl,show decide ((42:Int)=63)=false from rfl,show decide ((43:Int)=63)=false from rfl,show decide ((43:Int)=42)=false from rfl,show decide ((63:Int)=42)=false from rfl,show decide ((63:Int)=43)=false from rfl]at j1 j2 j3
   simp only[rI,List.map_cons,List.map_nil,List.length_cons,List.length_nil,Nat.zero_add,Nat.reduceAdd,ec,List.length_append]at hp q5
   rw[<-q5]
   clear q5 ih q1 q2 q3 q4 hr hdr c43 c42 hR hm
   refine D3 true (fun _=>O1.2) O1.1 rfl fun c hl=>?_;simp only[v8,C4,m7,List.length_cons,List.length_nil,Nat.reduceAdd,e7,and_true]at c hl;(try simp(maxSteps:=4000000) (disch:=first|assumption|omega) only[go_sem, *,i3,Option.isSome_some,hi,hl2,j1,j2,j3,hp,n6,List.length_append,↓c9,↓d9,Nat.reduceAdd,Nat.reduceSub,Nat.reduceMul,Nat.reduceBEq,Nat.reduceLeDiff,Nat.reduceLT,Nat.reduceDiv,Nat.reduceMod]);repeat' ((first|with_reducible first|refine o8 (fun hb=>?_) fun hb=>?_|refine o9 (fun hb=>?_) fun hb=>?_|refine p8 (fun hb=>?_) fun hb=>?_|refine p9 (fun hb=>?_) fun hb=>?_|refine q7 (fun hb=>?_) fun hb=>?_|refine g7 (fun hb=>?_) fun hb=>?_|rw[i0 rfl])<;>try simp(maxSteps:=4000000) (disch:=first|assumption|omega) only[go_sem, *,i3,Option.isSome_some,hi,hl2,j1,j2,j3,hp,n6,List.length_append,↓c9,↓d9,Nat.reduceAdd,Nat.reduceSub,Nat.reduceMul,Nat.reduceBEq,Nat.reduceLeDiff,Nat.reduceLT,Nat.reduceDiv,Nat.reduceMod])
  by_cases c63:(b.toNat:Int)=63
  ·have hr:A5 b=true:=by simp[A5,c63]
   obtain⟨a',n',R',q1,q2,q3,q4,q5⟩:=ih 9
   refine⟨a',n',R',q1,by rw[hdr];simp only[z8,hr];exact q2,by simp at q3;omega,by simp at q4;omega,?_⟩
   replace hp:=hp 9
   rw[c63]at hi j1 j2 j3
   simp only[decide_true,show decide ((42:Int)=43)=false from rfl,show decide ((42:Int)=63)=false from rfl,show decide ((43:Int)=63)=false from rfl,show decide ((43:Int)=42)=false from rfl,show decide ((63:Int)=42)=false from rfl,show decide ((63:Int)=43)=false from rfl]at j1 j2 j3
   simp only[rI,List.map_cons,List.map_nil,List.length_cons,List.length_nil,Nat.zero_add,Nat.reduceAdd,ec,List.length_append]at hp q5
   rw[<-q5]
   clear q5 ih q1 q2 q3 q4 hr hdr c63 c42 c43 hR hm
   refine D3 true (fun _=>O1.2) O1.1 rfl fun c hl=>?_;simp only[v8,C4,m7,List.length_cons,List.length_nil,Nat.reduceAdd,e7,and_true]at c hl;(try simp(maxSteps:=4000000) (disch:=first|assumption|omega) only[go_sem, *,i3,Option.isSome_some,hi,hl2,j1,j2,j3,hp,n6,List.length_append,↓c9,↓d9,Nat.reduceAdd,Nat.reduceSub,Nat.reduceMul,Nat.reduceBEq,Nat.reduceLeDiff,Nat.reduceLT,Nat.reduceDiv,Nat.reduceMod]);repeat' ((first|with_reducible first|refine o8 (fun hb=>?_) fun hb=>?_|refine o9 (fun hb=>?_) fun hb=>?_|refine p8 (fun hb=>?_) fun hb=>?_|refine p9 (fun hb=>?_) fun hb=>?_|refine q7 (fun hb=>?_) fun hb=>?_|refine g7 (fun hb=>?_) fun hb=>?_|rw[i0 rfl])<;>try simp(maxSteps:=4000000) (disch:=first|assumption|omega) only[go_sem, *,i3,Option.isSome_some,hi,hl2,j1,j2,j3,hp,n6,List.length_append,↓c9,↓d9,Nat.reduceAdd,Nat.reduceSub,Nat.reduceMul,Nat.reduceBEq,Nat.reduceLeDiff,Nat.reduceLT,Nat.reduceDiv,Nat.reduceMod])
  have hr:A5 b=false:=by simp[A5,c42,c43,c63]
  simp only[v7 c42,v7 c43,v7 c63]at j1 j2 j3
  refine⟨a,n,R,by omega,by rw[hdr];simp only[z8,hr],by omega,by omega,?_⟩
  clear ih hp hr hdr c42 c43 c63 hR hm
  exact lp O1
theorem d9g(k:Nat)(h:Q7 102 y7 0 3 k):Q7 100 G8 0 4 (k+1):=by
 intro s n R0 hn hk hlen hs
 have hb:=h s n R0 hn (by omega) hlen hs
 simp only[G8]
 cases hm:y7 k (s.drop n)with
 |none=>
  rw[hm]at hb
  obtain⟨w,bs,e,hbs⟩:=hb
  refine⟨w,bs,?_,hbs⟩
  clear hm h hlen hk
  rcases hbs with⟨n',rfl⟩|⟨n',R,h1,h2,rfl⟩
  ·have hj:=fun c=>a6e c s n' R0
   cases R0
   all_goals
    simp only[hS]at e hj⊢
    refine y0 true (fun _=>O1.2) O1.1 Tryz.func100 rfl rfl fun c ht hr=>?_;simp only[m7,List.length_cons,List.length_nil,Nat.reduceAdd,e7,and_true]at c;(try simp(maxSteps:=4000000) (disch:=first|assumption|omega) only[go_sem, *,i3,Option.isSome_some,e,hj,i1,↓c9,↓d9,Nat.reduceAdd,Nat.reduceSub,Nat.reduceMul,Nat.reduceBEq,Nat.reduceLeDiff,Nat.reduceLT,Nat.reduceDiv,Nat.reduceMod]);repeat' ((first|with_reducible first|refine o8 (fun hb=>?_) fun hb=>?_|refine o9 (fun hb=>?_) fun hb=>?_|refine p8 (fun hb=>?_) fun hb=>?_|refine p9 (fun hb=>?_) fun hb=>?_|refine q7 (fun hb=>?_) fun hb=>?_|refine g7 (fun hb=>?_) fun hb=>?_|rw[i0 rfl])<;>try simp(maxSteps:=4000000) (disch:=first|assumption|omega) only[go_sem, *,i3,Option.isSome_some,e,hj,i1,↓c9,↓d9,Nat.reduceAdd,Nat.reduceSub,Nat.reduceMul,Nat.reduceBEq,Nat.reduceLeDiff,Nat.reduceLT,Nat.reduceDiv,Nat.reduceMod])
  ·have hj:=fun c=>a7f c s n' R h1
   cases R0
   all_goals
    simp only[hS,hT]at e hj⊢
    refine y0 true (fun _=>O1.2) O1.1 Tryz.func100 rfl rfl fun c ht hr=>?_;simp only[m7,List.length_cons,List.length_nil,Nat.reduceAdd,e7,and_true]at c;(try simp(maxSteps:=4000000) (disch:=first|assumption|omega) only[go_sem, *,i3,Option.isSome_some,e,hj,i1,↓c9,↓d9,Nat.reduceAdd,Nat.reduceSub,Nat.reduceMul,Nat.reduceBEq,Nat.reduceLeDiff,Nat.reduceLT,Nat.reduceDiv,Nat.reduceMod]);repeat' ((first|with_reducible first|refine o8 (fun hb=>?_) fun hb=>?_|refine o9 (fun hb=>?_) fun hb=>?_|refine p8 (fun hb=>?_) fun hb=>?_|refine p9 (fun hb=>?_) fun hb=>?_|refine q7 (fun hb=>?_) fun hb=>?_|refine g7 (fun hb=>?_) fun hb=>?_|rw[i0 rfl])<;>try simp(maxSteps:=4000000) (disch:=first|assumption|omega) only[go_sem, *,i3,Option.isSome_some,e,hj,i1,↓c9,↓d9,Nat.reduceAdd,Nat.reduceSub,Nat.reduceMul,Nat.reduceBEq,Nat.reduceLeDiff,Nat.reduceLT,Nat.reduceDiv,Nat.reduceMod])
 |some r=>
  rw[hm]at hb
  obtain⟨a,n',R,e,g1,g2,⟨g3,g4⟩,g5⟩:=hb
  subst g2
  clear hm h
  simp only
  cases R0 with
  |nil=>
   obtain⟨a',n2,R',q1,q2,q3,q4,q5⟩:=b4g s hs (s.length-n') n' a R (by omega) (by omega) (by simp at g4 hlen;omega)
   refine⟨a',n2,R',?_,q1,q2,⟨by omega,by simp at g4⊢;omega⟩,by omega⟩
   clear q1 q2 q3 q4 g1 g3 g4 g5 hlen hk
   simp only[hS,hT]at e⊢
   exact fn O1 Tryz.func100
  |cons p ps=>
   obtain⟨a',n2,R',q1,q2,q3,q4,q5⟩:=b4h s hs (s.length-n') n' a R (by omega) (by omega) (by simp at g4 hlen;omega)
   refine⟨a',n2,R',?_,q1,q2,⟨by omega,by simp at g4⊢;omega⟩,by omega⟩
   clear q1 q2 q3 q4 g1 g3 g4 g5 hlen hk
   simp only[hS,hT]at e⊢
   exact fn O1 Tryz.func100
end
end Go.Vsi
