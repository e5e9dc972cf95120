/- What the functions of the program, of the reference and of the law do (a part of it). -/
import Derived.Test.YtbjkeppbogdgcaaGreatZX12
namespace Go.Vsi
open Go.Proofs
noncomputable section
set_option maxRecDepth 100000
set_option maxHeartbeats 4000000
set_option linter.unusedSimpArgs false
set_option linter.unusedVariables false
attribute [local go_sem ↓] v6
theorem b93(b:UInt8):((b.toNat:Int)=93)=(b=93):=by
 rw[eq_iff_iff]
 constructor
 ·intro h;exact UInt8.toNat_inj.1 (by have:(93:UInt8).toNat=93:=rfl;omega)
 ·rintro rfl;rfl
theorem a8y: ∀l:List UInt8,H9 l=none->K0 l=l.length
 |[],_=>rfl
 |b::l,h=>by
  unfold H9 at h
  split at h
  ·cases h
  ·rename_i hb
   have:H9 l=none:=by
    revert h
    cases H9 l with
    |none=>intro _;rfl
    |some x=>intro h;cases h
   have ih:=a8y l this
   unfold K0
   rw[if_neg (show¬(b.toNat:Int)=93 by rw[b93];exact hb),ih]
   rfl
theorem a1g: ∀(l x y:List UInt8),H9 l=some (x,y)->K0 l=x.length
 |[],x,y,h=>by cases h
 |b::l,x,y,h=>by
  unfold H9 at h
  unfold K0
  split at h
  ·rename_i hb
   obtain⟨rfl,rfl⟩:=Prod.mk.inj (Option.some.inj h)
   rw[if_pos (show(b.toNat:Int)=93 by rw[b93];exact hb)]
   rfl
  ·rename_i hb
   rw[if_neg (show¬(b.toNat:Int)=93 by rw[b93];exact hb)]
   cases hc:H9 l with
   |none=>rw[hc]at h;cases h
   |some z=>
    obtain⟨x',y'⟩:=z
    rw[hc]at h
    obtain⟨rfl,rfl⟩:=Prod.mk.inj (Option.some.inj h)
    rw[a1g l x' y' hc]
    rfl
def R7(s:List UInt8)(M:Nat)(R0:List (List D))(r:Option (W×List (Option k7)))(R8:Nat->Nat->List (List D)->Prop):Option (List UInt8)->Prop
 |some rest=> ∃(a n:Nat)(R:List (List D)),r=some (.one (.c (.d (.v (.int .i64 ((a:Int)))))),hT R0 s n false R)∧n<=s.length∧rest=s.drop n∧R8 n a R
 |none=> ∃(w:Int)(bs:List (Option k7)),r=some (.one (.c (.d (.v (.int .i64 (w))))),bs)∧((∃n,bs=hS s n true R0)∨ ∃n R,1<=R.length∧R.length<=M∧bs=hT R0 s n true R)
theorem a6d{c:UInt8}{l:List UInt8}(h:nx c l=true):l≠[]:=by
 rintro rfl
 cases h
theorem e3p(M:Nat)(s:List UInt8)(n:Nat)(R0:List (List D))(hn:n<s.length)(hs:s.length<=24)(hR:R0.length<=59)(hb:nx 94 (s.drop (n+1))=false)(hm:H9 (s.drop (n+1))=none):R7 s M R0 (c6 Tryz.prog T L0 106 [.c (.ptr 0 0 0)] (hS s n false R0)) (fun n' a R=>a=R0.length∧R.length=R0.length+1∧n+2<n') (T3 (s.drop (n+1))):=by
 have e94:((94:UInt8).toNat:Int)=94:=rfl
 have hi:=a7e 94 s (n+1) (by omega) hs R0
 rw[e94,hb]at hi
 have ec1:((n+1:Nat):Int)=(n:Int)+1:=by omega
 have ec2:((n+1+1:Nat):Int)=(n:Int)+1+1:=by omega
 have et1:((n:Int)+1).toNat=n+1:=by omega
 have et2:((n:Int)+1+1).toNat=n+1+1:=by omega
 have hn1:n+1<=s.length:=by omega
 have L0':=fun b0=>U6 s hs 3 b0 (s.length-(n+1)) (n+1) (by omega)
 have L1':=fun b0 r R=>U7 s hs 3 b0 r R (s.length-(n+1)) (n+1) (by omega)
 simp only[T3,hb,F8,List.drop_drop,hm]
 clear hb
 have he:=a8y _ hm
 rw[List.length_drop]at he
 have he2:n+1+K0 (s.drop (n+1))=s.length:=by omega
 rw[he2]at L0' L1'
 refine⟨0,hS s s.length true R0,?_,.inl ⟨_,rfl⟩⟩
 clear hm he he2 hR
 cases R0
 all_goals
  simp only[hS,ec1,ec2]at hi L0' L1'⊢
  exact fn a1x Tryz.func106
theorem e3q(M:Nat)(s:List UInt8)(n:Nat)(R0:List (List D))(hn:n<s.length)(hs:s.length<=24)(hR:R0.length<=59)(hb:nx 94 (s.drop (n+1))=false)(y:List UInt8)(hm:H9 (s.drop (n+1))=some ([],y)):R7 s M R0 (c6 Tryz.prog T L0 106 [.c (.ptr 0 0 0)] (hS s n false R0)) (fun n' a R=>a=R0.length∧R.length=R0.length+1∧n+2<n') (T3 (s.drop (n+1))):=by
 have e94:((94:UInt8).toNat:Int)=94:=rfl
 have hi:=a7e 94 s (n+1) (by omega) hs R0
 rw[e94,hb]at hi
 have ec1:((n+1:Nat):Int)=(n:Int)+1:=by omega
 have ec2:((n+1+1:Nat):Int)=(n:Int)+1+1:=by omega
 have et1:((n:Int)+1).toNat=n+1:=by omega
 have et2:((n:Int)+1+1).toNat=n+1+1:=by omega
 have hn1:n+1<=s.length:=by omega
 have L0':=fun b0=>U6 s hs 3 b0 (s.length-(n+1)) (n+1) (by omega)
 have L1':=fun b0 r R=>U7 s hs 3 b0 r R (s.length-(n+1)) (n+1) (by omega)
 simp only[T3,hb,F8,List.drop_drop,hm]
 clear hb
 have he:=a1g _ _ y hm
 obtain⟨h1,_⟩:=a0d _ _ y hm
 have hlen:s.length-(n+1)=([]:List UInt8).length+1+y.length:=by
  have:=congrArg List.length h1
  rw[List.length_drop]at this
  simp at this
  simp
  omega
 have hy:y=s.drop (n+1+([]:List UInt8).length+1):=by
  rw[show n+1+([]:List UInt8).length+1=(n+1)+(([]:List UInt8).length+1) by omega,<-List.drop_drop,h1,show([]:List UInt8)++93::y=(([]:List UInt8)++[93])++y by simp,List.drop_left' (by simp)]
 rw[he]at L0' L1'
 have q1:f8 (((n+1+([]:List UInt8).length:Nat)):Int) (s.length:Int)=false:=by
  simp only[f8,decide_eq_false_iff_not]
  omega
 clear hm he h1
 simp only[List.length_nil,Nat.add_zero]at L0' L1' q1
 refine⟨0,hS s (n+1) true R0,?_,.inl ⟨_,rfl⟩⟩
 clear hR hy hlen
 cases R0
 all_goals
  simp only[hS,ec1,ec2]at hi L0' L1' q1⊢
  exact fn a1x Tryz.func106
theorem e3r(M:Nat)(s:List UInt8)(n:Nat)(R0:List (List D))(hn:n<s.length)(hs:s.length<=24)(hR:R0.length<=59)(hb:nx 94 (s.drop (n+1))=false)(b:UInt8)(x y:List UInt8)(hm:H9 (s.drop (n+1))=some (b::x,y)):R7 s M R0 (c6 Tryz.prog T L0 106 [.c (.ptr 0 0 0)] (hS s n false R0)) (fun n' a R=>a=R0.length∧R.length=R0.length+1∧n+2<n') (T3 (s.drop (n+1))):=by
 have e94:((94:UInt8).toNat:Int)=94:=rfl
 have hi:=a7e 94 s (n+1) (by omega) hs R0
 rw[e94,hb]at hi
 have ec1:((n+1:Nat):Int)=(n:Int)+1:=by omega
 have ec2:((n+1+1:Nat):Int)=(n:Int)+1+1:=by omega
 have et1:((n:Int)+1).toNat=n+1:=by omega
 have et2:((n:Int)+1+1).toNat=n+1+1:=by omega
 have hn1:n+1<=s.length:=by omega
 have L0':=fun b0=>U6 s hs 3 b0 (s.length-(n+1)) (n+1) (by omega)
 have L1':=fun b0 r R=>U7 s hs 3 b0 r R (s.length-(n+1)) (n+1) (by omega)
 simp only[T3,hb,F8,List.drop_drop,hm]
 clear hb
 have he:=a1g _ _ y hm
 obtain⟨h1,_⟩:=a0d _ _ y hm
 have hlen:s.length-(n+1)=(b::x).length+1+y.length:=by
  have:=congrArg List.length h1
  rw[List.length_drop]at this
  simp at this
  simp
  omega
 have hy:y=s.drop (n+1+(b::x).length+1):=by
  rw[show n+1+(b::x).length+1=(n+1)+((b::x).length+1) by omega,<-List.drop_drop,h1,show(b::x)++93::y=((b::x)++[93])++y by simp,List.drop_left' (by simp)]
 rw[he]at L0' L1'
 have q1:f8 (((n+1+(b::x).length:Nat)):Int) (s.length:Int)=false:=by
  simp only[f8,decide_eq_false_iff_not]
  omega
 clear hm he h1
 have q2:f8 (((n+1+(b::x).length:Nat)):Int) ((n:Int)+1)=false:=by
  simp only[f8,decide_eq_false_iff_not,List.length_cons]
  omega
 have h3:n+1<n+1+(b::x).length:=by simp
 have h4:n+1+(b::x).length<s.length:=by omega
 generalize n+1+(b::x).length=e at L0' L1' q1 q2 hy h3 h4
 have hp:=fun t=>U5 3 t s (e+1) false R0 hR
 have ee:((e+1:Nat):Int)=(e:Int)+1:=by omega
 have hle:(e:Int)<=(s.length:Int):=by omega
 refine⟨R0.length,e+1,R0++[[.v (.int .i64 (3)),.v (.string (B ((s.drop (n+1)).take (e-(n+1))))),.v (.slice none 0 0)]],?_,by omega,hy,rfl,by simp,by omega⟩
 clear hR hy hlen
 cases R0
 all_goals
  simp only[hS,hT,ec1,ec2,ee]at hi hp L0' L1' q1⊢
  refine y0 true (fun _=>a1x.2) a1x.1 Tryz.func106 rfl rfl fun c ht hr=>?_;simp only[m7,List.length_cons,List.length_nil,Nat.reduceAdd,e7,and_true]at c;(try simp(maxSteps:=4000000) (disch:=first|assumption|omega) only[go_sem, *,i3,Option.isSome_some,hi,L0',L1',q1,q2,hp,et1,et2,Option.toArray,List.length_append,↓c9,↓d9,Nat.reduceAdd,Nat.reduceSub,Nat.reduceMul,Nat.reduceBEq,Nat.reduceLeDiff,Nat.reduceLT,Nat.reduceDiv,Nat.reduceMod]);repeat' ((first|with_reducible first|refine o8 (fun hb=>?_) fun hb=>?_|refine o9 (fun hb=>?_) fun hb=>?_|refine p8 (fun hb=>?_) fun hb=>?_|refine p9 (fun hb=>?_) fun hb=>?_|refine q7 (fun hb=>?_) fun hb=>?_|refine g7 (fun hb=>?_) fun hb=>?_|rw[i0 rfl])<;>try simp(maxSteps:=4000000) (disch:=first|assumption|omega) only[go_sem, *,i3,Option.isSome_some,hi,L0',L1',q1,q2,hp,et1,et2,Option.toArray,List.length_append,↓c9,↓d9,Nat.reduceAdd,Nat.reduceSub,Nat.reduceMul,Nat.reduceBEq,Nat.reduceLeDiff,Nat.reduceLT,Nat.reduceDiv,Nat.reduceMod])
theorem e3s(M:Nat)(s:List UInt8)(n:Nat)(R0:List (List D))(hn:n<s.length)(hs:s.length<=24)(hR:R0.length<=59)(hb:nx 94 (s.drop (n+1))=true)(hm:H9 (s.drop (n+1+1))=none):R7 s M R0 (c6 Tryz.prog T L0 106 [.c (.ptr 0 0 0)] (hS s n false R0)) (fun n' a R=>a=R0.length∧R.length=R0.length+1∧n+2<n') (T3 (s.drop (n+1))):=by
 have e94:((94:UInt8).toNat:Int)=94:=rfl
 have hi:=a7e 94 s (n+1) (by omega) hs R0
 rw[e94,hb]at hi
 have ec1:((n+1:Nat):Int)=(n:Int)+1:=by omega
 have ec2:((n+1+1:Nat):Int)=(n:Int)+1+1:=by omega
 have et1:((n:Int)+1).toNat=n+1:=by omega
 have et2:((n:Int)+1+1).toNat=n+1+1:=by omega
 have hn1:n+1+1<=s.length:=by
  have:=a6d hb
  rw[ne_eq,List.drop_eq_nil_iff]at this
  omega
 have L0':=fun b0=>U6 s hs 4 b0 (s.length-(n+1+1)) (n+1+1) (by omega)
 have L1':=fun b0 r R=>U7 s hs 4 b0 r R (s.length-(n+1+1)) (n+1+1) (by omega)
 simp only[T3,hb,F8,List.drop_drop,hm]
 clear hb
 have he:=a8y _ hm
 rw[List.length_drop]at he
 have he2:n+1+1+K0 (s.drop (n+1+1))=s.length:=by omega
 rw[he2]at L0' L1'
 refine⟨0,hS s s.length true R0,?_,.inl ⟨_,rfl⟩⟩
 clear hm he he2 hR
 cases R0
 all_goals
  simp only[hS,ec1,ec2]at hi L0' L1'⊢
  exact fn a1x Tryz.func106
theorem e3t(M:Nat)(s:List UInt8)(n:Nat)(R0:List (List D))(hn:n<s.length)(hs:s.length<=24)(hR:R0.length<=59)(hb:nx 94 (s.drop (n+1))=true)(y:List UInt8)(hm:H9 (s.drop (n+1+1))=some ([],y)):R7 s M R0 (c6 Tryz.prog T L0 106 [.c (.ptr 0 0 0)] (hS s n false R0)) (fun n' a R=>a=R0.length∧R.length=R0.length+1∧n+2<n') (T3 (s.drop (n+1))):=by
 have e94:((94:UInt8).toNat:Int)=94:=rfl
 have hi:=a7e 94 s (n+1) (by omega) hs R0
 rw[e94,hb]at hi
 have ec1:((n+1:Nat):Int)=(n:Int)+1:=by omega
 have ec2:((n+1+1:Nat):Int)=(n:Int)+1+1:=by omega
 have et1:((n:Int)+1).toNat=n+1:=by omega
 have et2:((n:Int)+1+1).toNat=n+1+1:=by omega
 have hn1:n+1+1<=s.length:=by
  have:=a6d hb
  rw[ne_eq,List.drop_eq_nil_iff]at this
  omega
 have L0':=fun b0=>U6 s hs 4 b0 (s.length-(n+1+1)) (n+1+1) (by omega)
 have L1':=fun b0 r R=>U7 s hs 4 b0 r R (s.length-(n+1+1)) (n+1+1) (by omega)
 simp only[T3,hb,F8,List.drop_drop,hm]
 clear hb
 have he:=a1g _ _ y hm
 obtain⟨h1,_⟩:=a0d _ _ y hm
 have hlen:s.length-(n+1+1)=([]:List UInt8).length+1+y.length:=by
  have:=congrArg List.length h1
  rw[List.length_drop]at this
  simp at this
  simp
  omega
 have hy:y=s.drop (n+1+1+([]:List UInt8).length+1):=by
  rw[show n+1+1+([]:List UInt8).length+1=(n+1+1)+(([]:List UInt8).length+1) by omega,<-List.drop_drop,h1,show([]:List UInt8)++93::y=(([]:List UInt8)++[93])++y by simp,List.drop_left' (by simp)]
 rw[he]at L0' L1'
 have q1:f8 (((n+1+1+([]:List UInt8).length:Nat)):Int) (s.length:Int)=false:=by
  simp only[f8,decide_eq_false_iff_not]
  omega
 clear hm he h1
 simp only[List.length_nil,Nat.add_zero]at L0' L1' q1
 refine⟨0,hS s (n+1+1) true R0,?_,.inl ⟨_,rfl⟩⟩
 clear hR hy hlen
 cases R0
 all_goals
  simp only[hS,ec1,ec2]at hi L0' L1' q1⊢
  exact fn a1x Tryz.func106
theorem e3u(M:Nat)(s:List UInt8)(n:Nat)(R0:List (List D))(hn:n<s.length)(hs:s.length<=24)(hR:R0.length<=59)(hb:nx 94 (s.drop (n+1))=true)(b:UInt8)(x y:List UInt8)(hm:H9 (s.drop (n+1+1))=some (b::x,y)):R7 s M R0 (c6 Tryz.prog T L0 106 [.c (.ptr 0 0 0)] (hS s n false R0)) (fun n' a R=>a=R0.length∧R.length=R0.length+1∧n+2<n') (T3 (s.drop (n+1))):=by
 have e94:((94:UInt8).toNat:Int)=94:=rfl
 have hi:=a7e 94 s (n+1) (by omega) hs R0
 rw[e94,hb]at hi
 have ec1:((n+1:Nat):Int)=(n:Int)+1:=by omega
 have ec2:((n+1+1:Nat):Int)=(n:Int)+1+1:=by omega
 have et1:((n:Int)+1).toNat=n+1:=by omega
 have et2:((n:Int)+1+1).toNat=n+1+1:=by omega
 have hn1:n+1+1<=s.length:=by
  have:=a6d hb
  rw[ne_eq,List.drop_eq_nil_iff]at this
  omega
 have L0':=fun b0=>U6 s hs 4 b0 (s.length-(n+1+1)) (n+1+1) (by omega)
 have L1':=fun b0 r R=>U7 s hs 4 b0 r R (s.length-(n+1+1)) (n+1+1) (by omega)
 simp only[T3,hb,F8,List.drop_drop,hm]
 clear hb
 have he:=a1g _ _ y hm
 obtain⟨h1,_⟩:=a0d _ _ y hm
 have hlen:s.length-(n+1+1)=(b::x).length+1+y.length:=by
  have:=congrArg List.length h1
  rw[List.length_drop]at this
  simp at this
  simp
  omega
 have hy:y=s.drop (n+1+1+(b::x).length+1):=by
  rw[show n+1+1+(b::x).length+1=(n+1+1)+((b::x).length+1) by omega,<-List.drop_drop,h1,show(b::x)++93::y=((b::x)++[93])++y by simp,List.drop_left' (by simp)]
 rw[he]at L0' L1'
 have q1:f8 (((n+1+1+(b::x).length:Nat)):Int) (s.length:Int)=false:=by
  simp only[f8,decide_eq_false_iff_not]
  omega
 clear hm he h1
 have q2:f8 (((n+1+1+(b::x).length:Nat)):Int) ((n:Int)+1+1)=false:=by
  simp only[f8,decide_eq_false_iff_not,List.length_cons]
  omega
 have h3:n+1+1<n+1+1+(b::x).length:=by simp
 have h4:n+1+1+(b::x).length<s.length:=by omega
 generalize n+1+1+(b::x).length=e at L0' L1' q1 q2 hy h3 h4
 have hp:=fun t=>U5 4 t s (e+1) false R0 hR
 have ee:((e+1:Nat):Int)=(e:Int)+1:=by omega
 have hle:(e:Int)<=(s.length:Int):=by omega
 refine⟨R0.length,e+1,R0++[[.v (.int .i64 (4)),.v (.string (B ((s.drop (n+1+1)).take (e-(n+1+1))))),.v (.slice none 0 0)]],?_,by omega,hy,rfl,by simp,by omega⟩
 clear hR hy hlen
 cases R0
 all_goals
  simp only[hS,hT,ec1,ec2,ee]at hi hp L0' L1' q1⊢
  refine y0 true (fun _=>a1x.2) a1x.1 Tryz.func106 rfl rfl fun c ht hr=>?_;simp only[m7,List.length_cons,List.length_nil,Nat.reduceAdd,e7,and_true]at c;(try simp(maxSteps:=4000000) (disch:=first|assumption|omega) only[go_sem, *,i3,Option.isSome_some,hi,L0',L1',q1,q2,hp,et1,et2,Option.toArray,List.length_append,↓c9,↓d9,Nat.reduceAdd,Nat.reduceSub,Nat.reduceMul,Nat.reduceBEq,Nat.reduceLeDiff,Nat.reduceLT,Nat.reduceDiv,Nat.reduceMod]);repeat' ((first|with_reducible first|refine o8 (fun hb=>?_) fun hb=>?_|refine o9 (fun hb=>?_) fun hb=>?_|refine p8 (fun hb=>?_) fun hb=>?_|refine p9 (fun hb=>?_) fun hb=>?_|refine q7 (fun hb=>?_) fun hb=>?_|refine g7 (fun hb=>?_) fun hb=>?_|rw[i0 rfl])<;>try simp(maxSteps:=4000000) (disch:=first|assumption|omega) only[go_sem, *,i3,Option.isSome_some,hi,L0',L1',q1,q2,hp,et1,et2,Option.toArray,List.length_append,↓c9,↓d9,Nat.reduceAdd,Nat.reduceSub,Nat.reduceMul,Nat.reduceBEq,Nat.reduceLeDiff,Nat.reduceLT,Nat.reduceDiv,Nat.reduceMod])
theorem c7j(M:Nat)(s:List UInt8)(n:Nat)(R0:List (List D))(hn:n<s.length)(hs:s.length<=24)(hR:R0.length<=59):R7 s M R0 (c6 Tryz.prog T L0 106 [.c (.ptr 0 0 0)] (hS s n false R0)) (fun n' a R=>a=R0.length∧R.length=R0.length+1∧n+2<n') (T3 (s.drop (n+1))):=by
 cases hb:nx 94 (s.drop (n+1))with
 |false=>
  cases hm:H9 (s.drop (n+1))with
  |none=>exact e3p M s n R0 hn hs hR hb hm
  |some z=>
   obtain⟨x,y⟩:=z
   cases x with
   |nil=>exact e3q M s n R0 hn hs hR hb y hm
   |cons b x=>exact e3r M s n R0 hn hs hR hb b x y hm
 |true=>
  cases hm:H9 (s.drop (n+1+1))with
  |none=>exact e3s M s n R0 hn hs hR hb hm
  |some z=>
   obtain⟨x,y⟩:=z
   cases x with
   |nil=>exact e3t M s n R0 hn hs hR hb y hm
   |cons b x=>exact e3u M s n R0 hn hs hR hb b x y hm
end
end Go.Vsi
