/- What the functions of the program, of the reference and of the law do (a part of it). -/
import Derived.Test.YtbjkeppbogdgcaaGreatZX15
namespace Go.Vsi
open Go.Proofs
noncomputable section
set_option maxRecDepth 100000
set_option maxHeartbeats 4000000
set_option linter.unusedSimpArgs false
set_option linter.unusedVariables false
attribute [local go_sem] v6
theorem d0x(k:Nat)(h:Q7 88 F9 1 6 k)(s:List UInt8)(n:Nat)(R0:List (List D))(hn:n<=s.length)(hk:6*(s.length-n)+3<=k+1)(hlen:R0.length+2*(s.length-n)<=58+(1-0))(hs:s.length<=24)(hl:n<s.length)(c94: ¬(s[n].toNat:Int)=94)(c36: ¬(s[n].toNat:Int)=36)(c46: ¬(s[n].toNat:Int)=46)(c91: ¬(s[n].toNat:Int)=91)(c40: ¬(s[n].toNat:Int)=40)(c92:(s[n].toNat:Int)=92)(hm:n+1<s.length)(hsp:a0z s[n+1]=true):R7 s (R0.length+2*(s.length-n)+2*0+1) R0 (c6 Tryz.prog T L0 102 [.c (.ptr 0 0 0)] (hS s n false R0)) (Y6 0 s n R0) (y7 (k+1) (s.drop n)):=by
 have hi:=E8 s n hl
 have hl2: ¬(s.length:Int)<=(n:Int):=by omega
 have hl3:(n:Int)<(s.length:Int):=by omega
 have ec1:((n+1:Nat):Int)=(n:Int)+1:=by omega
 have ec2:((n+1+1:Nat):Int)=(n:Int)+1+1:=by omega
 rw[List.drop_eq_getElem_cons hl]
 simp only[y7,nx,List.drop_succ_cons,List.drop_zero,show((94:UInt8).toNat:Int)=94 from rfl,show((36:UInt8).toNat:Int)=36 from rfl,show((46:UInt8).toNat:Int)=46 from rfl,show((91:UInt8).toNat:Int)=91 from rfl,show((40:UInt8).toNat:Int)=40 from rfl]
 generalize s[n]=b at hi c94 c36 c46 c91 c40 c92⊢
 have q94:f8 (b.toNat:Int) 94=false:=by simp[f8,c94]
 simp only[v7 c94]
 clear c94
 have q36:f8 (b.toNat:Int) 36=false:=by simp[f8,c36]
 simp only[v7 c36]
 clear c36
 have q46:f8 (b.toNat:Int) 46=false:=by simp[f8,c46]
 simp only[v7 c46]
 clear c46
 have q91:f8 (b.toNat:Int) 91=false:=by simp[f8,c91]
 simp only[v7 c91]
 clear c91
 have q40:f8 (b.toNat:Int) 40=false:=by simp[f8,c40]
 simp only[v7 c40]
 clear c40
 rw[c92]at hi
 simp only[O9,if_pos c92]
 clear c92 h
 have hj:=E8 s (n+1) hm
 have hm2: ¬(s.length:Int)<=(n:Int)+1:=by omega
 have hm3:(n:Int)+1<(s.length:Int):=by omega
 rw[List.drop_eq_getElem_cons hm]
 generalize s[n+1]=d at hj hsp⊢
 have hd:=a1r d
 rw[show(U4.any fun c=>decide ((c.toNat:Int)=(d.toNat:Int)))=a0z d from rfl,hsp]at hd
 simp only[hsp]
 clear hsp
 have hp:=U5 1 [d] s (n+1+1) false R0 (by omega)
 simp only[if_true]
 refine⟨R0.length,n+1+1,R0++[[.v (.int .i64 (1)),.v (.string (B ([d]))),.v (.slice none 0 0)]],?_,by omega,rfl,⟨by simp,by simp;omega⟩,by omega⟩
 clear hlen
 cases R0
 all_goals
  simp only[hS,hT,ec1,ec2]at hp hj⊢
  refine y0 true (fun _=>R6.2) R6.1 Tryz.func102 rfl rfl fun c ht hr=>?_;simp only[m7,List.length_cons,List.length_nil,Nat.reduceAdd,e7,and_true]at c;(try simp(maxSteps:=4000000) (disch:=first|assumption|omega) only[go_sem, *,i3,Option.isSome_some,hi,hj,hl2,hl3,hm2,hm3,hp,hd,c1q,w8,List.mapM_cons,List.mapM_nil,Option.pure_def,Option.bind_eq_bind,Option.bind_some,List.toList_toArray,List.length_append,↓c9,↓d9,Nat.reduceAdd,Nat.reduceSub,Nat.reduceMul,Nat.reduceBEq,Nat.reduceLeDiff,Nat.reduceLT,Nat.reduceDiv,Nat.reduceMod]);repeat' ((first|with_reducible first|refine o8 (fun hb=>?_) fun hb=>?_|refine o9 (fun hb=>?_) fun hb=>?_|refine p8 (fun hb=>?_) fun hb=>?_|refine p9 (fun hb=>?_) fun hb=>?_|refine q7 (fun hb=>?_) fun hb=>?_|refine g7 (fun hb=>?_) fun hb=>?_|rw[i0 rfl])<;>try simp(maxSteps:=4000000) (disch:=first|assumption|omega) only[go_sem, *,i3,Option.isSome_some,hi,hj,hl2,hl3,hm2,hm3,hp,hd,c1q,w8,List.mapM_cons,List.mapM_nil,Option.pure_def,Option.bind_eq_bind,Option.bind_some,List.toList_toArray,List.length_append,↓c9,↓d9,Nat.reduceAdd,Nat.reduceSub,Nat.reduceMul,Nat.reduceBEq,Nat.reduceLeDiff,Nat.reduceLT,Nat.reduceDiv,Nat.reduceMod])
end
end Go.Vsi
