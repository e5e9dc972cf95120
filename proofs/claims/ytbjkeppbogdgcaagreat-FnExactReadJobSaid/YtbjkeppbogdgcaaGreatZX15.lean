/- What the functions of the program, of the reference and of the law do (a part of it). -/
import Derived.Test.YtbjkeppbogdgcaaGreatZX14
namespace Go.Vsi
open Go.Proofs
noncomputable section
set_option maxRecDepth 100000
set_option maxHeartbeats 4000000
set_option linter.unusedSimpArgs false
set_option linter.unusedVariables false
attribute [local go_sem] v6
theorem D8(c:UInt8)(s:List UInt8)(n:Nat)(hn:n<=s.length)(hs:s.length<=24)(R:List (List D))(hR:1<=R.length):c6 Tryz.prog T L0 94 [.c (.ptr 0 0 0),.c (.d (.v (.int .u8 ((c.toNat:Int)))))] [some (.var [.d (.v (.string (B (s)))),.d (.v (.int .i64 ((n:Int)))),.d (.v (.bool (false))),.arr 1 0 R.length]),some (.arr 3 R)]=some (.one (.c (.d (.v (.bool (nx c (s.drop n)))))),[some (.var [.d (.v (.string (B (s)))),.d (.v (.int .i64 ((n:Int)))),.d (.v (.bool (false))),.arr 1 0 R.length]),some (.arr 3 R)]):=by
 cases R with
 |nil=>simp at hR
 |cons p ps=>exact a7e c s n hn hs (p::ps)
theorem a6e(c:Int)(s:List UInt8)(n:Nat)(R:List (List D)):c6 Tryz.prog T L0 94 [.c (.ptr 0 0 0),.c (.d (.v (.int .u8 (c))))] (hS s n true R)=some (.one (.c (.d (.v (.bool (false))))),hS s n true R):=by
 cases R
 all_goals
  simp only[hS]
  exact fn W94 Tryz.func94
theorem a7f(c:Int)(s:List UInt8)(n:Nat)(R:List (List D))(hR:1<=R.length):c6 Tryz.prog T L0 94 [.c (.ptr 0 0 0),.c (.d (.v (.int .u8 (c))))] [some (.var [.d (.v (.string (B (s)))),.d (.v (.int .i64 ((n:Int)))),.d (.v (.bool (true))),.arr 1 0 R.length]),some (.arr 3 R)]=some (.one (.c (.d (.v (.bool (false))))),[some (.var [.d (.v (.string (B (s)))),.d (.v (.int .i64 ((n:Int)))),.d (.v (.bool (true))),.arr 1 0 R.length]),some (.arr 3 R)]):=by
 cases R with
 |nil=>simp at hR
 |cons p ps=>exact a6e c s n (p::ps)
def Y6(c:Nat)(s:List UInt8)(n:Nat)(R0:List (List D))(n':Nat)(a:Nat)(R:List (List D)):Prop:=
 (R0.length<R.length∧R.length+2*(s.length-n')+1<=R0.length+2*(s.length-n)+2*c)∧(s.length-n')+(1-c)<=s.length-n
def Q7(f:FuncId)(m:Nat->List UInt8->Option (List UInt8))(c k0 k:Nat):Prop:= ∀(s:List UInt8)(n:Nat)(R0:List (List D)),n<=s.length->6*(s.length-n)+k0<=k->R0.length+2*(s.length-n)<=58+(1-c)->s.length<=24->
 R7 s (R0.length+2*(s.length-n)+2*c+1) R0 (c6 Tryz.prog T L0 f [.c (.ptr 0 0 0)] (hS s n false R0)) (Y6 c s n R0) (m k (s.drop n))
theorem c1q(b:UInt8):UInt8.ofNat b.toNat=b:=by simp
theorem d4l(k:Nat)(h:Q7 88 F9 1 6 k)(s:List UInt8)(n:Nat)(R0:List (List D))(hn:n<=s.length)(hk:6*(s.length-n)+3<=k+1)(hlen:R0.length+2*(s.length-n)<=58+(1-0))(hs:s.length<=24)(hl:n<s.length)(c94:(s[n].toNat:Int)=94):R7 s (R0.length+2*(s.length-n)+2*0+1) R0 (c6 Tryz.prog T L0 102 [.c (.ptr 0 0 0)] (hS s n false R0)) (Y6 0 s n R0) (y7 (k+1) (s.drop n)):=by
 have hi:=E8 s n hl
 have hl2: ¬(s.length:Int)<=(n:Int):=by omega
 have hl3:(n:Int)<(s.length:Int):=by omega
 have ec1:((n+1:Nat):Int)=(n:Int)+1:=by omega
 have ec2:((n+1+1:Nat):Int)=(n:Int)+1+1:=by omega
 have hp:=fun op t=>U5 op t s (n+1) false R0 (by omega)
 rw[List.drop_eq_getElem_cons hl]
 simp only[y7,nx,List.drop_succ_cons,List.drop_zero,show((94:UInt8).toNat:Int)=94 from rfl,show((36:UInt8).toNat:Int)=36 from rfl,show((46:UInt8).toNat:Int)=46 from rfl,show((91:UInt8).toNat:Int)=91 from rfl,show((40:UInt8).toNat:Int)=40 from rfl]
 generalize s[n]=b at hi c94⊢
 rw[c94]at hi
 simp only[c94,decide_true]
 refine⟨R0.length,n+1,R0++[[.v (.int .i64 (10)),.v (.string (B ([]))),.v (.slice none 0 0)]],?_,by omega,rfl,⟨by simp,by simp;omega⟩,by omega⟩
 clear c94 hlen h
 cases R0
 all_goals
  simp only[hS,hT,ec1]at hp⊢
  refine y0 true (fun _=>R6.2) R6.1 Tryz.func102 rfl rfl fun c ht hr=>?_;simp only[m7,List.length_cons,List.length_nil,Nat.reduceAdd,e7,and_true]at c;(try simp(maxSteps:=4000000) (disch:=first|assumption|omega) only[go_sem, *,i3,Option.isSome_some,hi,hl2,hl3,hp,n6,List.length_append,↓c9,↓d9,Nat.reduceAdd,Nat.reduceSub,Nat.reduceMul,Nat.reduceBEq,Nat.reduceLeDiff,Nat.reduceLT,Nat.reduceDiv,Nat.reduceMod]);repeat' ((first|with_reducible first|refine o8 (fun hb=>?_) fun hb=>?_|refine o9 (fun hb=>?_) fun hb=>?_|refine p8 (fun hb=>?_) fun hb=>?_|refine p9 (fun hb=>?_) fun hb=>?_|refine q7 (fun hb=>?_) fun hb=>?_|refine g7 (fun hb=>?_) fun hb=>?_|rw[i0 rfl])<;>try simp(maxSteps:=4000000) (disch:=first|assumption|omega) only[go_sem, *,i3,Option.isSome_some,hi,hl2,hl3,hp,n6,List.length_append,↓c9,↓d9,Nat.reduceAdd,Nat.reduceSub,Nat.reduceMul,Nat.reduceBEq,Nat.reduceLeDiff,Nat.reduceLT,Nat.reduceDiv,Nat.reduceMod])
theorem d4m(k:Nat)(h:Q7 88 F9 1 6 k)(s:List UInt8)(n:Nat)(R0:List (List D))(hn:n<=s.length)(hk:6*(s.length-n)+3<=k+1)(hlen:R0.length+2*(s.length-n)<=58+(1-0))(hs:s.length<=24)(hl:n<s.length)(c94: ¬(s[n].toNat:Int)=94)(c36:(s[n].toNat:Int)=36):R7 s (R0.length+2*(s.length-n)+2*0+1) R0 (c6 Tryz.prog T L0 102 [.c (.ptr 0 0 0)] (hS s n false R0)) (Y6 0 s n R0) (y7 (k+1) (s.drop n)):=by
 have hi:=E8 s n hl
 have hl2: ¬(s.length:Int)<=(n:Int):=by omega
 have hl3:(n:Int)<(s.length:Int):=by omega
 have ec1:((n+1:Nat):Int)=(n:Int)+1:=by omega
 have ec2:((n+1+1:Nat):Int)=(n:Int)+1+1:=by omega
 have hp:=fun op t=>U5 op t s (n+1) false R0 (by omega)
 rw[List.drop_eq_getElem_cons hl]
 simp only[y7,nx,List.drop_succ_cons,List.drop_zero,show((94:UInt8).toNat:Int)=94 from rfl,show((36:UInt8).toNat:Int)=36 from rfl,show((46:UInt8).toNat:Int)=46 from rfl,show((91:UInt8).toNat:Int)=91 from rfl,show((40:UInt8).toNat:Int)=40 from rfl]
 generalize s[n]=b at hi c94 c36⊢
 have q94:f8 (b.toNat:Int) 94=false:=by simp[f8,c94]
 simp only[v7 c94]
 clear c94
 rw[c36]at hi
 simp only[c36,decide_true]
 refine⟨R0.length,n+1,R0++[[.v (.int .i64 (11)),.v (.string (B ([]))),.v (.slice none 0 0)]],?_,by omega,rfl,⟨by simp,by simp;omega⟩,by omega⟩
 clear c36 hlen h
 cases R0
 all_goals
  simp only[hS,hT,ec1]at hp⊢
  refine y0 true (fun _=>R6.2) R6.1 Tryz.func102 rfl rfl fun c ht hr=>?_;simp only[m7,List.length_cons,List.length_nil,Nat.reduceAdd,e7,and_true]at c;(try simp(maxSteps:=4000000) (disch:=first|assumption|omega) only[go_sem, *,i3,Option.isSome_some,hi,hl2,hl3,hp,n6,List.length_append,↓c9,↓d9,Nat.reduceAdd,Nat.reduceSub,Nat.reduceMul,Nat.reduceBEq,Nat.reduceLeDiff,Nat.reduceLT,Nat.reduceDiv,Nat.reduceMod]);repeat' ((first|with_reducible first|refine o8 (fun hb=>?_) fun hb=>?_|refine o9 (fun hb=>?_) fun hb=>?_|refine p8 (fun hb=>?_) fun hb=>?_|refine p9 (fun hb=>?_) fun hb=>?_|refine q7 (fun hb=>?_) fun hb=>?_|refine g7 (fun hb=>?_) fun hb=>?_|rw[i0 rfl])<;>try simp(maxSteps:=4000000) (disch:=first|assumption|omega) only[go_sem, *,i3,Option.isSome_some,hi,hl2,hl3,hp,n6,List.length_append,↓c9,↓d9,Nat.reduceAdd,Nat.reduceSub,Nat.reduceMul,Nat.reduceBEq,Nat.reduceLeDiff,Nat.reduceLT,Nat.reduceDiv,Nat.reduceMod])
theorem d4n(k:Nat)(h:Q7 88 F9 1 6 k)(s:List UInt8)(n:Nat)(R0:List (List D))(hn:n<=s.length)(hk:6*(s.length-n)+3<=k+1)(hlen:R0.length+2*(s.length-n)<=58+(1-0))(hs:s.length<=24)(hl:n<s.length)(c94: ¬(s[n].toNat:Int)=94)(c36: ¬(s[n].toNat:Int)=36)(c46:(s[n].toNat:Int)=46):R7 s (R0.length+2*(s.length-n)+2*0+1) R0 (c6 Tryz.prog T L0 102 [.c (.ptr 0 0 0)] (hS s n false R0)) (Y6 0 s n R0) (y7 (k+1) (s.drop n)):=by
 have hi:=E8 s n hl
 have hl2: ¬(s.length:Int)<=(n:Int):=by omega
 have hl3:(n:Int)<(s.length:Int):=by omega
 have ec1:((n+1:Nat):Int)=(n:Int)+1:=by omega
 have ec2:((n+1+1:Nat):Int)=(n:Int)+1+1:=by omega
 have hp:=fun op t=>U5 op t s (n+1) false R0 (by omega)
 rw[List.drop_eq_getElem_cons hl]
 simp only[y7,nx,List.drop_succ_cons,List.drop_zero,show((94:UInt8).toNat:Int)=94 from rfl,show((36:UInt8).toNat:Int)=36 from rfl,show((46:UInt8).toNat:Int)=46 from rfl,show((91:UInt8).toNat:Int)=91 from rfl,show((40:UInt8).toNat:Int)=40 from rfl]
 generalize s[n]=b at hi c94 c36 c46⊢
 have q94:f8 (b.toNat:Int) 94=false:=by simp[f8,c94]
 simp only[v7 c94]
 clear c94
 have q36:f8 (b.toNat:Int) 36=false:=by simp[f8,c36]
 simp only[v7 c36]
 clear c36
 rw[c46]at hi
 simp only[c46,decide_true]
 refine⟨R0.length,n+1,R0++[[.v (.int .i64 (2)),.v (.string (B ([]))),.v (.slice none 0 0)]],?_,by omega,rfl,⟨by simp,by simp;omega⟩,by omega⟩
 clear c46 hlen h
 cases R0
 all_goals
  simp only[hS,hT,ec1]at hp⊢
  refine y0 true (fun _=>R6.2) R6.1 Tryz.func102 rfl rfl fun c ht hr=>?_;simp only[m7,List.length_cons,List.length_nil,Nat.reduceAdd,e7,and_true]at c;(try simp(maxSteps:=4000000) (disch:=first|assumption|omega) only[go_sem, *,i3,Option.isSome_some,hi,hl2,hl3,hp,n6,List.length_append,↓c9,↓d9,Nat.reduceAdd,Nat.reduceSub,Nat.reduceMul,Nat.reduceBEq,Nat.reduceLeDiff,Nat.reduceLT,Nat.reduceDiv,Nat.reduceMod]);repeat' ((first|with_reducible first|refine o8 (fun hb=>?_) fun hb=>?_|refine o9 (fun hb=>?_) fun hb=>?_|refine p8 (fun hb=>?_) fun hb=>?_|refine p9 (fun hb=>?_) fun hb=>?_|refine q7 (fun hb=>?_) fun hb=>?_|refine g7 (fun hb=>?_) fun hb=>?_|rw[i0 rfl])<;>try simp(maxSteps:=4000000) (disch:=first|assumption|omega) only[go_sem, *,i3,Option.isSome_some,hi,hl2,hl3,hp,n6,List.length_append,↓c9,↓d9,Nat.reduceAdd,Nat.reduceSub,Nat.reduceMul,Nat.reduceBEq,Nat.reduceLeDiff,Nat.reduceLT,Nat.reduceDiv,Nat.reduceMod])
theorem d0q(k:Nat)(h:Q7 88 F9 1 6 k)(s:List UInt8)(n:Nat)(R0:List (List D))(hn:n<=s.length)(hk:6*(s.length-n)+3<=k+1)(hlen:R0.length+2*(s.length-n)<=58+(1-0))(hs:s.length<=24)(hl:n<s.length)(c94: ¬(s[n].toNat:Int)=94)(c36: ¬(s[n].toNat:Int)=36)(c46: ¬(s[n].toNat:Int)=46)(c91:(s[n].toNat:Int)=91)(hm:T3 (s.drop (n+1))=none):R7 s (R0.length+2*(s.length-n)+2*0+1) R0 (c6 Tryz.prog T L0 102 [.c (.ptr 0 0 0)] (hS s n false R0)) (Y6 0 s n R0) (y7 (k+1) (s.drop n)):=by
 have hi:=E8 s n hl
 have hl2: ¬(s.length:Int)<=(n:Int):=by omega
 have hl3:(n:Int)<(s.length:Int):=by omega
 have ec1:((n+1:Nat):Int)=(n:Int)+1:=by omega
 have ec2:((n+1+1:Nat):Int)=(n:Int)+1+1:=by omega
 have hset:=c7j (R0.length+2*(s.length-n)+2*0+1) s n R0 hl hs (by omega)
 rw[List.drop_eq_getElem_cons hl]
 simp only[y7,nx,List.drop_succ_cons,List.drop_zero,show((94:UInt8).toNat:Int)=94 from rfl,show((36:UInt8).toNat:Int)=36 from rfl,show((46:UInt8).toNat:Int)=46 from rfl,show((91:UInt8).toNat:Int)=91 from rfl,show((40:UInt8).toNat:Int)=40 from rfl]
 generalize s[n]=b at hi c94 c36 c46 c91⊢
 have q94:f8 (b.toNat:Int) 94=false:=by simp[f8,c94]
 simp only[v7 c94]
 clear c94
 have q36:f8 (b.toNat:Int) 36=false:=by simp[f8,c36]
 simp only[v7 c36]
 clear c36
 have q46:f8 (b.toNat:Int) 46=false:=by simp[f8,c46]
 simp only[v7 c46]
 clear c46
 rw[c91]at hi
 simp only[c91,decide_true,hm]
 rw[hm]at hset
 obtain⟨w,bs,e,hbs⟩:=hset
 refine⟨w,bs,?_,hbs⟩
 clear hm hlen h c91
 rcases hbs with⟨n',rfl⟩|⟨n',R,z1,z2,rfl⟩
 all_goals
  cases R0
  all_goals
   simp only[hS,hT]at e⊢
   exact fn R6 Tryz.func102
theorem d0r(k:Nat)(h:Q7 88 F9 1 6 k)(s:List UInt8)(n:Nat)(R0:List (List D))(hn:n<=s.length)(hk:6*(s.length-n)+3<=k+1)(hlen:R0.length+2*(s.length-n)<=58+(1-0))(hs:s.length<=24)(hl:n<s.length)(c94: ¬(s[n].toNat:Int)=94)(c36: ¬(s[n].toNat:Int)=36)(c46: ¬(s[n].toNat:Int)=46)(c91:(s[n].toNat:Int)=91)(rest:List UInt8)(hm:T3 (s.drop (n+1))=some rest):R7 s (R0.length+2*(s.length-n)+2*0+1) R0 (c6 Tryz.prog T L0 102 [.c (.ptr 0 0 0)] (hS s n false R0)) (Y6 0 s n R0) (y7 (k+1) (s.drop n)):=by
 have hi:=E8 s n hl
 have hl2: ¬(s.length:Int)<=(n:Int):=by omega
 have hl3:(n:Int)<(s.length:Int):=by omega
 have ec1:((n+1:Nat):Int)=(n:Int)+1:=by omega
 have ec2:((n+1+1:Nat):Int)=(n:Int)+1+1:=by omega
 have hset:=c7j (R0.length+2*(s.length-n)+2*0+1) s n R0 hl hs (by omega)
 rw[List.drop_eq_getElem_cons hl]
 simp only[y7,nx,List.drop_succ_cons,List.drop_zero,show((94:UInt8).toNat:Int)=94 from rfl,show((36:UInt8).toNat:Int)=36 from rfl,show((46:UInt8).toNat:Int)=46 from rfl,show((91:UInt8).toNat:Int)=91 from rfl,show((40:UInt8).toNat:Int)=40 from rfl]
 generalize s[n]=b at hi c94 c36 c46 c91⊢
 have q94:f8 (b.toNat:Int) 94=false:=by simp[f8,c94]
 simp only[v7 c94]
 clear c94
 have q36:f8 (b.toNat:Int) 36=false:=by simp[f8,c36]
 simp only[v7 c36]
 clear c36
 have q46:f8 (b.toNat:Int) 46=false:=by simp[f8,c46]
 simp only[v7 c46]
 clear c46
 rw[c91]at hi
 simp only[c91,decide_true,hm]
 rw[hm]at hset
 obtain⟨a,n',R,e,g1,g2,g3,g4,g5⟩:=hset
 refine⟨a,n',R,?_,g1,g2,⟨by omega,by omega⟩,by omega⟩
 clear hm hlen g1 g2 g3 g4 g5 h c91
 cases R0
 all_goals
  simp only[hS,hT]at e⊢
  exact fn R6 Tryz.func102
end
end Go.Vsi
