/- What the functions of the program, of the reference and of the law do (a part of it). -/
import Derived.Test.YtbjkeppbogdgcaaGreatZY1
import Derived.Test.YtbjkeppbogdgcaaGreatZPA
namespace Go.Vsi
open Go.Proofs
noncomputable section
set_option maxRecDepth 100000
set_option maxHeartbeats 4000000
set_option linter.unusedSimpArgs false
set_option linter.unusedVariables false
attribute [local go_sem ↓] v6
theorem a3e(n k:Nat):((n:Int)).tmod (k:Int)=((n%k:Nat):Int):=by
 rw[Int.tmod_eq_emod_of_nonneg (by omega)];omega
theorem f5q(n k:Nat):((n:Int)).tdiv (k:Int)=((n/k:Nat):Int):=by
 rw[Int.tdiv_eq_ediv_of_nonneg (by omega)];omega
def a0g:Nat->Nat->List UInt8
 |0,_=>[]
 |f+1,n=>if n<=127 then[]else UInt8.ofNat (n%128+128)::a0g f (n/128)
def a1y:Nat->Nat->Nat
 |0,n=>n
 |f+1,n=>if n<=127 then n else a1y f (n/128)
theorem c0n: ∀(f n:Nat),enc f n=a0g f n++[UInt8.ofNat (a1y f n)]
 |0,n=>rfl
 |f+1,n=>by
  unfold enc a0g a1y
  split
  ·rfl
  ·rw[c0n f (n/128)];rfl
theorem c7s: ∀(f n:Nat),n<128^(f+1)->a1y f n<=127
 |0,n,h=>by simp at h;unfold a1y;omega
 |f+1,n,h=>by
  unfold a1y
  split
  ·assumption
  ·refine c7s f (n/128) ?_
   rw[Nat.pow_succ]at h
   exact Nat.div_lt_of_lt_mul (by rw[Nat.mul_comm];exact h)
theorem c3p: ∀(f n:Nat),(a0g f n).length<=f
 |0,_=>by simp[a0g]
 |f+1,n=>by
  unfold a0g
  split
  ·simp
  ·have:=c3p f (n/128)
   simp;omega
theorem b4m: ∀(f n:Nat)(acc:List UInt8),n<128^(f+1)->n<=9223372036854775807->acc.length+f<=100->
 g8 Tryz.prog T1 (c6 Tryz.prog T1 L1) 35 (cq Tryz.f35 [0,0,0,1,1]) ⟨[.one (.c (.d (.v (.int .i64 ((n:Int)))))),J,J,.one (.c (.arr 0 0 acc.length)),J,J,J,J,J,J,J,J,J,J,J,J,J,J,J,J,J,J],c7 [some (.arr 1 (rU acc))],1,0⟩=some (.exit 0,⟨[.one (.c (.d (.v (.int .i64 ((a1y f n:Int)))))),J,J,.one (.c (.arr 0 0 (acc++a0g f n).length)),J,J,J,J,J,J,J,J,J,J,J,J,J,J,J,J,J,J],c7 [some (.arr 1 (rU (acc++a0g f n)))],1,0⟩)
 |0,n,acc,h,hm,ha=>by
  have hn:n<=127:=by simp at h;omega
  simp only[a0g,a1y,List.append_nil]
  clear h
  exact lp V35
 |f+1,n,acc,h,hm,ha=>by
  by_cases hn:n<=127
  ·simp only[a0g,a1y,if_pos hn,List.append_nil]
   clear h
   exact lp V35
  ·have ih:=b4m f (n/128) (acc++[UInt8.ofNat (n%128+128)]) (by
    rw[Nat.pow_succ]at h
    exact Nat.div_lt_of_lt_mul (by rw[Nat.mul_comm];exact h)) (by omega) (by simp;omega)
   have t1:((n:Int)).tmod 128=((n%128:Nat):Int):=a3e n 128
   have t2:((n:Int)).tdiv 128=((n/128:Nat):Int):=f5q n 128
   have hz:(128:Int)≠0:=by decide
   have hb:n%128<=127:=by omega
   have hs:rU acc++[[.v (.int .u8 (((n%128:Nat):Int)+128))]]=rU (acc++[UInt8.ofNat (n%128+128)]):=by
    have:=c7q acc (n%128+128) (by omega)
    rw[<-this];simp
   have hroom:room=70368744177664:=rfl
   have hl:(acc++[UInt8.ofNat (n%128+128)]).length=acc.length+1:=by simp
   have hall:=d4w acc
   have htk:=d0y acc
   rw[List.append_assoc,List.singleton_append]at ih
   simp only[a0g,a1y,if_neg hn]
   rw[<-ih,hl,<-hs]
   clear ih h hs hl
   have hq:n/128<=9223372036854775807:=by omega
   generalize n%128=m at t1 hb⊢
   generalize n/128=q at t2 hq⊢
   exact lp V35
theorem F4(n:Nat)(hn:n<=9223372036854775807):c6 Tryz.prog T1 L1 35 [.c (.d (.v (.int .i64 ((n:Int)))))] []=some (.one (.c (.d (.v (.string (B (v5 n)))))),[]):=by
 have Lp:=b4m 9 n [] (by omega) hn (by simp)
 have hr:=c7s 9 n (by omega)
 have hl:=c3p 9 n
 unfold v5
 rw[c0n]
 have hs:=c7q (a0g 9 n) (a1y 9 n) (by omega)
 have ht:(rU (a0g 9 n++[UInt8.ofNat (a1y 9 n)])).take ((a0g 9 n).length+1)=rU (a0g 9 n++[UInt8.ofNat (a1y 9 n)]):=by
  have:=d0y (a0g 9 n++[UInt8.ofNat (a1y 9 n)])
  rwa[List.length_append,List.length_singleton]at this
 rw[List.nil_append]at Lp
 have hroom:room=70368744177664:=rfl
 have e0:rU []=[]:=rfl
 rw[e0,List.length_nil]at Lp
 generalize a1y 9 n=m at Lp hr hs ht⊢
 generalize a0g 9 n=l at Lp hl hs ht⊢
 refine y0 true (fun _=>V35.2) V35.1 Tryz.func35 rfl rfl fun c ht hr=>?_;simp only[m7,List.length_cons,List.length_nil,Nat.reduceAdd,e7,and_true]at c;(try simp(maxSteps:=4000000) (disch:=first|assumption|omega) only[go_sem, *,↓c9,↓d9,Nat.reduceAdd,Nat.reduceSub,Nat.reduceMul,Nat.reduceBEq,Nat.reduceLeDiff,Nat.reduceLT,Nat.reduceDiv,Nat.reduceMod]);repeat' ((first|with_reducible first|refine o8 (fun hb=>?_) fun hb=>?_|refine o9 (fun hb=>?_) fun hb=>?_|refine p8 (fun hb=>?_) fun hb=>?_|refine p9 (fun hb=>?_) fun hb=>?_|refine q7 (fun hb=>?_) fun hb=>?_|refine g7 (fun hb=>?_) fun hb=>?_|rw[i0 rfl])<;>try simp(maxSteps:=4000000) (disch:=first|assumption|omega) only[go_sem, *,↓c9,↓d9,Nat.reduceAdd,Nat.reduceSub,Nat.reduceMul,Nat.reduceBEq,Nat.reduceLeDiff,Nat.reduceLT,Nat.reduceDiv,Nat.reduceMod])
 rw[e4n _ (fun b=>by simp)]
 simp(maxSteps:=4000000) (disch:=first|assumption|omega) only[go_sem, *,Nat.reduceAdd,Nat.reduceSub,Nat.reduceMul,Nat.reduceBEq,Nat.reduceLeDiff,Nat.reduceLT,Nat.reduceDiv,Nat.reduceMod]
end
end Go.Vsi
namespace Go.Vsi
open Go.Proofs
noncomputable section
set_option maxRecDepth 100000
set_option maxHeartbeats 4000000
set_option linter.unusedSimpArgs false
set_option linter.unusedVariables false
attribute [local go_sem ↓] v6
def N4:Nat->Nat->Nat->List UInt8->Option (Option (Nat×List UInt8))
 |0,_,_,_=>none
 |_+1,_,_,[]=>none
 |f+1,w,n,c::l=>if 127<c.toNat then N4 f (w*128) (n+w*(c.toNat%128)) l else if(1<w∧c.toNat=0)∨1000000000<n+w*(c.toNat%128)then some none else some (some (n+w*(c.toNat%128),l))
theorem f8e(s:List UInt8)(a n:Nat):g8 Tryz.prog T1 (c6 Tryz.prog T1 L1) 57 (cq Tryz.f57 [0,0,1,0,1,1,1]) ⟨[.one (.c (.d (.v (.string (B (s)))))),.one (.c (.d (.v (.int .i64 ((a:Int)))))),J,J,J,J,J,.one (.c (.d (.v (.int .i64 ((n:Int)))))),.one (.c (.d (.v (.int .i64 (5))))),J,J,J,J,J,J,J,J,J,J,J,J,J,J,J,J,J,J,J,J,J,J,J,J,J,J,J,J,J,J,J,J,J,J,J,J,J,J,J,J,J,J,J,J,J,J,J,J],c7 [],0,0⟩=some (.exit 0,⟨[J,J,J,J,J,J,J,J,J,J,J,J,J,J,J,J,J,J,J,J,J,J,J,J,J,J,J,J,J,J,J,J,J,J,J,J,J,J,J,J,J,J,J,J,J,J,J,J,J,J,J,J,J,J,J,J,J],c7 [],0,0⟩):=by
 exact lp W6
theorem f8f(s l:List UInt8)(a n:Nat)(hm:s.length<=1000000000)(ha:a<=s.length)(hd:s.drop (a+4)=l)(hn:n<268435456):g8 Tryz.prog T1 (c6 Tryz.prog T1 L1) 57 (cq Tryz.f57 [0,0,1,0,1,1,1]) ⟨[.one (.c (.d (.v (.string (B (s)))))),.one (.c (.d (.v (.int .i64 ((a:Int)))))),J,J,J,J,J,.one (.c (.d (.v (.int .i64 ((n:Int)))))),.one (.c (.d (.v (.int .i64 (4))))),J,J,J,J,J,J,J,J,J,J,J,J,J,J,J,J,J,J,J,J,J,J,J,J,J,J,J,J,J,J,J,J,J,J,J,J,J,J,J,J,J,J,J,J,J,J,J,J],c7 [],0,0⟩=match N4 1 268435456 n l with
 |none=>some (.exit 0,⟨[J,J,J,J,J,J,J,J,J,J,J,J,J,J,J,J,J,J,J,J,J,J,J,J,J,J,J,J,J,J,J,J,J,J,J,J,J,J,J,J,J,J,J,J,J,J,J,J,J,J,J,J,J,J,J,J,J],c7 [],0,0⟩)
 |some none=>some (.ret,⟨[J,J,J,J,.one (.c (.d (.v (.int .i64 (0))))),.one (.c (.d (.v (.int .i64 (0))))),.one (.c (.d (.v (.bool (false))))),J,J,J,J,J,J,J,J,J,J,J,J,J,J,J,J,J,J,J,J,J,J,J,J,J,J,J,J,J,J,J,J,J,J,J,J,J,J,J,J,J,J,J,J,J,J,J,J,J,J],c7 [],0,0⟩)
 |some (some (v,r))=>some (.ret,⟨[J,J,J,J,.one (.c (.d (.v (.int .i64 ((v:Int)))))),.one (.c (.d (.v (.int .i64 ((s.length:Int)-(r.length:Int)))))),.one (.c (.d (.v (.bool (true))))),J,J,J,J,J,J,J,J,J,J,J,J,J,J,J,J,J,J,J,J,J,J,J,J,J,J,J,J,J,J,J,J,J,J,J,J,J,J,J,J,J,J,J,J,J,J,J,J,J,J],c7 [],0,0⟩):=by
 cases l with
 |nil=>
  have hl:s.length<=a+4:=List.drop_eq_nil_iff.1 hd
  simp only[N4]
  clear hd
  exact lp W6
 |cons c l=>
  have hl:a+4<s.length:=by
   have:=congrArg List.length hd
   rw[List.length_drop,List.length_cons]at this
   omega
  have hL:l.length+a+5=s.length:=by
   have:=congrArg List.length hd
   rw[List.length_drop,List.length_cons]at this
   omega
  have hd2:s.drop (a+4+1)=l:=by rw[<-List.drop_drop,hd];rfl
  have hc: ∀h:((a:Int)+4).toNat<s.length,s[((a:Int)+4).toNat]'h=c:=fun h=>by
   have e:((a:Int)+4).toNat=a+4:=by omega
   have h2:s[a+4]?=some c:=by rw[<-List.head?_drop,hd];rfl
   have h3:s[((a:Int)+4).toNat]?=some c:=by rw[e];exact h2
   exact(List.getElem?_eq_some_iff.1 h3).2
  have hb:c.toNat<256:=c.toNat_lt
  have t1:((c.toNat:Int)).tmod 128=((c.toNat%128:Nat):Int):=a3e _ 128
  have hz:(128:Int)≠0:=by decide
  have hi:(4:Int)+1=5:=rfl
  have hq:(2:Int)^((7:Int)*4).toNat=268435456:=rfl
  have hm2:c.toNat%128<=127:=by omega
  have hcast:((n+268435456*(c.toNat%128):Nat):Int)=(n:Int)+((c.toNat%128:Nat):Int)*268435456:=by omega
  have hp:(s.length:Int)-(l.length:Int)=(a:Int)+4+1:=by omega
  by_cases h7:127<c.toNat
  ·have ih:=f8e s a (n+268435456*(c.toNat%128))
   simp only[N4,if_pos h7,Nat.reduceMul]
   rw[hcast]at ih
   clear hd hd2 hcast hp hL
   generalize c.toNat%128=m at*
   exact lp W6
  ·by_cases hv:1000000000<n+268435456*(c.toNat%128)
   ·simp only[N4,if_neg h7,Nat.reduceMul,if_pos (Or.inr hv)]
    clear hd hd2 hcast hp hL
    generalize c.toNat%128=m at*
    exact lp W6
   ·by_cases h0:c.toNat=0
    ·simp only[N4,if_neg h7,Nat.reduceMul,if_pos (Or.inl (And.intro (by decide:1<268435456) h0))]
     have he:f8 (c.toNat:Int) 0=true:=b7d _ _ (by omega)
     clear hd hd2 hcast hp hL h0
     generalize c.toNat%128=m at*
     exact lp W6
    ·have hno: ¬((1<268435456∧c.toNat=0)∨1000000000<n+268435456*(c.toNat%128)):=by omega
     simp only[N4,if_neg h7,Nat.reduceMul,if_neg hno]
     have he:f8 (c.toNat:Int) 0=false:=b7e _ _ (by omega)
     rw[hp,hcast]
     clear hd hd2 hcast hp hL h0 hno
     generalize c.toNat%128=m at*
     exact lp W6
theorem f8g(s l:List UInt8)(a n:Nat)(hm:s.length<=1000000000)(ha:a<=s.length)(hd:s.drop (a+3)=l)(hn:n<2097152):g8 Tryz.prog T1 (c6 Tryz.prog T1 L1) 57 (cq Tryz.f57 [0,0,1,0,1,1,1]) ⟨[.one (.c (.d (.v (.string (B (s)))))),.one (.c (.d (.v (.int .i64 ((a:Int)))))),J,J,J,J,J,.one (.c (.d (.v (.int .i64 ((n:Int)))))),.one (.c (.d (.v (.int .i64 (3))))),J,J,J,J,J,J,J,J,J,J,J,J,J,J,J,J,J,J,J,J,J,J,J,J,J,J,J,J,J,J,J,J,J,J,J,J,J,J,J,J,J,J,J,J,J,J,J,J],c7 [],0,0⟩=match N4 2 2097152 n l with
 |none=>some (.exit 0,⟨[J,J,J,J,J,J,J,J,J,J,J,J,J,J,J,J,J,J,J,J,J,J,J,J,J,J,J,J,J,J,J,J,J,J,J,J,J,J,J,J,J,J,J,J,J,J,J,J,J,J,J,J,J,J,J,J,J],c7 [],0,0⟩)
 |some none=>some (.ret,⟨[J,J,J,J,.one (.c (.d (.v (.int .i64 (0))))),.one (.c (.d (.v (.int .i64 (0))))),.one (.c (.d (.v (.bool (false))))),J,J,J,J,J,J,J,J,J,J,J,J,J,J,J,J,J,J,J,J,J,J,J,J,J,J,J,J,J,J,J,J,J,J,J,J,J,J,J,J,J,J,J,J,J,J,J,J,J,J],c7 [],0,0⟩)
 |some (some (v,r))=>some (.ret,⟨[J,J,J,J,.one (.c (.d (.v (.int .i64 ((v:Int)))))),.one (.c (.d (.v (.int .i64 ((s.length:Int)-(r.length:Int)))))),.one (.c (.d (.v (.bool (true))))),J,J,J,J,J,J,J,J,J,J,J,J,J,J,J,J,J,J,J,J,J,J,J,J,J,J,J,J,J,J,J,J,J,J,J,J,J,J,J,J,J,J,J,J,J,J,J,J,J,J],c7 [],0,0⟩):=by
 cases l with
 |nil=>
  have hl:s.length<=a+3:=List.drop_eq_nil_iff.1 hd
  simp only[N4]
  clear hd
  exact lp W6
 |cons c l=>
  have hl:a+3<s.length:=by
   have:=congrArg List.length hd
   rw[List.length_drop,List.length_cons]at this
   omega
  have hL:l.length+a+4=s.length:=by
   have:=congrArg List.length hd
   rw[List.length_drop,List.length_cons]at this
   omega
  have hd2:s.drop (a+3+1)=l:=by rw[<-List.drop_drop,hd];rfl
  have hc: ∀h:((a:Int)+3).toNat<s.length,s[((a:Int)+3).toNat]'h=c:=fun h=>by
   have e:((a:Int)+3).toNat=a+3:=by omega
   have h2:s[a+3]?=some c:=by rw[<-List.head?_drop,hd];rfl
   have h3:s[((a:Int)+3).toNat]?=some c:=by rw[e];exact h2
   exact(List.getElem?_eq_some_iff.1 h3).2
  have hb:c.toNat<256:=c.toNat_lt
  have t1:((c.toNat:Int)).tmod 128=((c.toNat%128:Nat):Int):=a3e _ 128
  have hz:(128:Int)≠0:=by decide
  have hi:(3:Int)+1=4:=rfl
  have hq:(2:Int)^((7:Int)*3).toNat=2097152:=rfl
  have hm2:c.toNat%128<=127:=by omega
  have hcast:((n+2097152*(c.toNat%128):Nat):Int)=(n:Int)+((c.toNat%128:Nat):Int)*2097152:=by omega
  have hp:(s.length:Int)-(l.length:Int)=(a:Int)+3+1:=by omega
  by_cases h7:127<c.toNat
  ·have ih:=f8f s l a (n+2097152*(c.toNat%128)) hm ha (by simpa [Nat.add_assoc]using hd2) (by omega)
   simp only[N4,if_pos h7,Nat.reduceMul]
   rw[<-ih]
   rw[hcast]
   clear ih hd hd2 hcast hp hL
   generalize c.toNat%128=m at*
   exact lp W6
  ·by_cases hv:1000000000<n+2097152*(c.toNat%128)
   ·exact absurd hv (by omega)
   ·by_cases h0:c.toNat=0
    ·simp only[N4,if_neg h7,Nat.reduceMul,if_pos (Or.inl (And.intro (by decide:1<2097152) h0))]
     have he:f8 (c.toNat:Int) 0=true:=b7d _ _ (by omega)
     clear hd hd2 hcast hp hL h0
     generalize c.toNat%128=m at*
     exact lp W6
    ·have hno: ¬((1<2097152∧c.toNat=0)∨1000000000<n+2097152*(c.toNat%128)):=by omega
     simp only[N4,if_neg h7,Nat.reduceMul,if_neg hno]
     have he:f8 (c.toNat:Int) 0=false:=b7e _ _ (by omega)
     rw[hp,hcast]
     clear hd hd2 hcast hp hL h0 hno
     generalize c.toNat%128=m at*
     exact lp W6
theorem f8h(s l:List UInt8)(a n:Nat)(hm:s.length<=1000000000)(ha:a<=s.length)(hd:s.drop (a+2)=l)(hn:n<16384):g8 Tryz.prog T1 (c6 Tryz.prog T1 L1) 57 (cq Tryz.f57 [0,0,1,0,1,1,1]) ⟨[.one (.c (.d (.v (.string (B (s)))))),.one (.c (.d (.v (.int .i64 ((a:Int)))))),J,J,J,J,J,.one (.c (.d (.v (.int .i64 ((n:Int)))))),.one (.c (.d (.v (.int .i64 (2))))),J,J,J,J,J,J,J,J,J,J,J,J,J,J,J,J,J,J,J,J,J,J,J,J,J,J,J,J,J,J,J,J,J,J,J,J,J,J,J,J,J,J,J,J,J,J,J,J],c7 [],0,0⟩=match N4 3 16384 n l with
 |none=>some (.exit 0,⟨[J,J,J,J,J,J,J,J,J,J,J,J,J,J,J,J,J,J,J,J,J,J,J,J,J,J,J,J,J,J,J,J,J,J,J,J,J,J,J,J,J,J,J,J,J,J,J,J,J,J,J,J,J,J,J,J,J],c7 [],0,0⟩)
 |some none=>some (.ret,⟨[J,J,J,J,.one (.c (.d (.v (.int .i64 (0))))),.one (.c (.d (.v (.int .i64 (0))))),.one (.c (.d (.v (.bool (false))))),J,J,J,J,J,J,J,J,J,J,J,J,J,J,J,J,J,J,J,J,J,J,J,J,J,J,J,J,J,J,J,J,J,J,J,J,J,J,J,J,J,J,J,J,J,J,J,J,J,J],c7 [],0,0⟩)
 |some (some (v,r))=>some (.ret,⟨[J,J,J,J,.one (.c (.d (.v (.int .i64 ((v:Int)))))),.one (.c (.d (.v (.int .i64 ((s.length:Int)-(r.length:Int)))))),.one (.c (.d (.v (.bool (true))))),J,J,J,J,J,J,J,J,J,J,J,J,J,J,J,J,J,J,J,J,J,J,J,J,J,J,J,J,J,J,J,J,J,J,J,J,J,J,J,J,J,J,J,J,J,J,J,J,J,J],c7 [],0,0⟩):=by
 cases l with
 |nil=>
  have hl:s.length<=a+2:=List.drop_eq_nil_iff.1 hd
  simp only[N4]
  clear hd
  exact lp W6
 |cons c l=>
  have hl:a+2<s.length:=by
   have:=congrArg List.length hd
   rw[List.length_drop,List.length_cons]at this
   omega
  have hL:l.length+a+3=s.length:=by
   have:=congrArg List.length hd
   rw[List.length_drop,List.length_cons]at this
   omega
  have hd2:s.drop (a+2+1)=l:=by rw[<-List.drop_drop,hd];rfl
  have hc: ∀h:((a:Int)+2).toNat<s.length,s[((a:Int)+2).toNat]'h=c:=fun h=>by
   have e:((a:Int)+2).toNat=a+2:=by omega
   have h2:s[a+2]?=some c:=by rw[<-List.head?_drop,hd];rfl
   have h3:s[((a:Int)+2).toNat]?=some c:=by rw[e];exact h2
   exact(List.getElem?_eq_some_iff.1 h3).2
  have hb:c.toNat<256:=c.toNat_lt
  have t1:((c.toNat:Int)).tmod 128=((c.toNat%128:Nat):Int):=a3e _ 128
  have hz:(128:Int)≠0:=by decide
  have hi:(2:Int)+1=3:=rfl
  have hq:(2:Int)^((7:Int)*2).toNat=16384:=rfl
  have hm2:c.toNat%128<=127:=by omega
  have hcast:((n+16384*(c.toNat%128):Nat):Int)=(n:Int)+((c.toNat%128:Nat):Int)*16384:=by omega
  have hp:(s.length:Int)-(l.length:Int)=(a:Int)+2+1:=by omega
  by_cases h7:127<c.toNat
  ·have ih:=f8g s l a (n+16384*(c.toNat%128)) hm ha (by simpa [Nat.add_assoc]using hd2) (by omega)
   simp only[N4,if_pos h7,Nat.reduceMul]
   rw[<-ih]
   rw[hcast]
   clear ih hd hd2 hcast hp hL
   generalize c.toNat%128=m at*
   exact lp W6
  ·by_cases hv:1000000000<n+16384*(c.toNat%128)
   ·exact absurd hv (by omega)
   ·by_cases h0:c.toNat=0
    ·simp only[N4,if_neg h7,Nat.reduceMul,if_pos (Or.inl (And.intro (by decide:1<16384) h0))]
     have he:f8 (c.toNat:Int) 0=true:=b7d _ _ (by omega)
     clear hd hd2 hcast hp hL h0
     generalize c.toNat%128=m at*
     exact lp W6
    ·have hno: ¬((1<16384∧c.toNat=0)∨1000000000<n+16384*(c.toNat%128)):=by omega
     simp only[N4,if_neg h7,Nat.reduceMul,if_neg hno]
     have he:f8 (c.toNat:Int) 0=false:=b7e _ _ (by omega)
     rw[hp,hcast]
     clear hd hd2 hcast hp hL h0 hno
     generalize c.toNat%128=m at*
     exact lp W6
theorem f8i(s l:List UInt8)(a n:Nat)(hm:s.length<=1000000000)(ha:a<=s.length)(hd:s.drop (a+1)=l)(hn:n<128):g8 Tryz.prog T1 (c6 Tryz.prog T1 L1) 57 (cq Tryz.f57 [0,0,1,0,1,1,1]) ⟨[.one (.c (.d (.v (.string (B (s)))))),.one (.c (.d (.v (.int .i64 ((a:Int)))))),J,J,J,J,J,.one (.c (.d (.v (.int .i64 ((n:Int)))))),.one (.c (.d (.v (.int .i64 (1))))),J,J,J,J,J,J,J,J,J,J,J,J,J,J,J,J,J,J,J,J,J,J,J,J,J,J,J,J,J,J,J,J,J,J,J,J,J,J,J,J,J,J,J,J,J,J,J,J],c7 [],0,0⟩=match N4 4 128 n l with
 |none=>some (.exit 0,⟨[J,J,J,J,J,J,J,J,J,J,J,J,J,J,J,J,J,J,J,J,J,J,J,J,J,J,J,J,J,J,J,J,J,J,J,J,J,J,J,J,J,J,J,J,J,J,J,J,J,J,J,J,J,J,J,J,J],c7 [],0,0⟩)
 |some none=>some (.ret,⟨[J,J,J,J,.one (.c (.d (.v (.int .i64 (0))))),.one (.c (.d (.v (.int .i64 (0))))),.one (.c (.d (.v (.bool (false))))),J,J,J,J,J,J,J,J,J,J,J,J,J,J,J,J,J,J,J,J,J,J,J,J,J,J,J,J,J,J,J,J,J,J,J,J,J,J,J,J,J,J,J,J,J,J,J,J,J,J],c7 [],0,0⟩)
 |some (some (v,r))=>some (.ret,⟨[J,J,J,J,.one (.c (.d (.v (.int .i64 ((v:Int)))))),.one (.c (.d (.v (.int .i64 ((s.length:Int)-(r.length:Int)))))),.one (.c (.d (.v (.bool (true))))),J,J,J,J,J,J,J,J,J,J,J,J,J,J,J,J,J,J,J,J,J,J,J,J,J,J,J,J,J,J,J,J,J,J,J,J,J,J,J,J,J,J,J,J,J,J,J,J,J,J],c7 [],0,0⟩):=by
 cases l with
 |nil=>
  have hl:s.length<=a+1:=List.drop_eq_nil_iff.1 hd
  simp only[N4]
  clear hd
  exact lp W6
 |cons c l=>
  have hl:a+1<s.length:=by
   have:=congrArg List.length hd
   rw[List.length_drop,List.length_cons]at this
   omega
  have hL:l.length+a+2=s.length:=by
   have:=congrArg List.length hd
   rw[List.length_drop,List.length_cons]at this
   omega
  have hd2:s.drop (a+1+1)=l:=by rw[<-List.drop_drop,hd];rfl
  have hc: ∀h:((a:Int)+1).toNat<s.length,s[((a:Int)+1).toNat]'h=c:=fun h=>by
   have e:((a:Int)+1).toNat=a+1:=by omega
   have h2:s[a+1]?=some c:=by rw[<-List.head?_drop,hd];rfl
   have h3:s[((a:Int)+1).toNat]?=some c:=by rw[e];exact h2
   exact(List.getElem?_eq_some_iff.1 h3).2
  have hb:c.toNat<256:=c.toNat_lt
  have t1:((c.toNat:Int)).tmod 128=((c.toNat%128:Nat):Int):=a3e _ 128
  have hz:(128:Int)≠0:=by decide
  have hi:(1:Int)+1=2:=rfl
  have hq:(2:Int)^((7:Int)*1).toNat=128:=rfl
  have hm2:c.toNat%128<=127:=by omega
  have hcast:((n+128*(c.toNat%128):Nat):Int)=(n:Int)+((c.toNat%128:Nat):Int)*128:=by omega
  have hp:(s.length:Int)-(l.length:Int)=(a:Int)+1+1:=by omega
  by_cases h7:127<c.toNat
  ·have ih:=f8h s l a (n+128*(c.toNat%128)) hm ha (by simpa [Nat.add_assoc]using hd2) (by omega)
   simp only[N4,if_pos h7,Nat.reduceMul]
   rw[<-ih]
   rw[hcast]
   clear ih hd hd2 hcast hp hL
   generalize c.toNat%128=m at*
   exact lp W6
  ·by_cases hv:1000000000<n+128*(c.toNat%128)
   ·exact absurd hv (by omega)
   ·by_cases h0:c.toNat=0
    ·simp only[N4,if_neg h7,Nat.reduceMul,if_pos (Or.inl (And.intro (by decide:1<128) h0))]
     have he:f8 (c.toNat:Int) 0=true:=b7d _ _ (by omega)
     clear hd hd2 hcast hp hL h0
     generalize c.toNat%128=m at*
     exact lp W6
    ·have hno: ¬((1<128∧c.toNat=0)∨1000000000<n+128*(c.toNat%128)):=by omega
     simp only[N4,if_neg h7,Nat.reduceMul,if_neg hno]
     have he:f8 (c.toNat:Int) 0=false:=b7e _ _ (by omega)
     rw[hp,hcast]
     clear hd hd2 hcast hp hL h0 hno
     generalize c.toNat%128=m at*
     exact lp W6
theorem f8j(s l:List UInt8)(a n:Nat)(hm:s.length<=1000000000)(ha:a<=s.length)(hd:s.drop (a+0)=l)(hn:n<1):g8 Tryz.prog T1 (c6 Tryz.prog T1 L1) 57 (cq Tryz.f57 [0,0,1,0,1,1,1]) ⟨[.one (.c (.d (.v (.string (B (s)))))),.one (.c (.d (.v (.int .i64 ((a:Int)))))),J,J,J,J,J,.one (.c (.d (.v (.int .i64 ((n:Int)))))),.one (.c (.d (.v (.int .i64 (0))))),J,J,J,J,J,J,J,J,J,J,J,J,J,J,J,J,J,J,J,J,J,J,J,J,J,J,J,J,J,J,J,J,J,J,J,J,J,J,J,J,J,J,J,J,J,J,J,J],c7 [],0,0⟩=match N4 5 1 n l with
 |none=>some (.exit 0,⟨[J,J,J,J,J,J,J,J,J,J,J,J,J,J,J,J,J,J,J,J,J,J,J,J,J,J,J,J,J,J,J,J,J,J,J,J,J,J,J,J,J,J,J,J,J,J,J,J,J,J,J,J,J,J,J,J,J],c7 [],0,0⟩)
 |some none=>some (.ret,⟨[J,J,J,J,.one (.c (.d (.v (.int .i64 (0))))),.one (.c (.d (.v (.int .i64 (0))))),.one (.c (.d (.v (.bool (false))))),J,J,J,J,J,J,J,J,J,J,J,J,J,J,J,J,J,J,J,J,J,J,J,J,J,J,J,J,J,J,J,J,J,J,J,J,J,J,J,J,J,J,J,J,J,J,J,J,J,J],c7 [],0,0⟩)
 |some (some (v,r))=>some (.ret,⟨[J,J,J,J,.one (.c (.d (.v (.int .i64 ((v:Int)))))),.one (.c (.d (.v (.int .i64 ((s.length:Int)-(r.length:Int)))))),.one (.c (.d (.v (.bool (true))))),J,J,J,J,J,J,J,J,J,J,J,J,J,J,J,J,J,J,J,J,J,J,J,J,J,J,J,J,J,J,J,J,J,J,J,J,J,J,J,J,J,J,J,J,J,J,J,J,J,J],c7 [],0,0⟩):=by
 cases l with
 |nil=>
  have hl:s.length<=a+0:=List.drop_eq_nil_iff.1 hd
  simp only[N4]
  clear hd
  exact lp W6
 |cons c l=>
  have hl:a+0<s.length:=by
   have:=congrArg List.length hd
   rw[List.length_drop,List.length_cons]at this
   omega
  have hL:l.length+a+1=s.length:=by
   have:=congrArg List.length hd
   rw[List.length_drop,List.length_cons]at this
   omega
  have hd2:s.drop (a+0+1)=l:=by rw[<-List.drop_drop,hd];rfl
  have hc: ∀h:((a:Int)+0).toNat<s.length,s[((a:Int)+0).toNat]'h=c:=fun h=>by
   have e:((a:Int)+0).toNat=a+0:=by omega
   have h2:s[a+0]?=some c:=by rw[<-List.head?_drop,hd];rfl
   have h3:s[((a:Int)+0).toNat]?=some c:=by rw[e];exact h2
   exact(List.getElem?_eq_some_iff.1 h3).2
  have hb:c.toNat<256:=c.toNat_lt
  have t1:((c.toNat:Int)).tmod 128=((c.toNat%128:Nat):Int):=a3e _ 128
  have hz:(128:Int)≠0:=by decide
  have hi:(0:Int)+1=1:=rfl
  have hq:(2:Int)^((7:Int)*0).toNat=1:=rfl
  have hm2:c.toNat%128<=127:=by omega
  have hcast:((n+1*(c.toNat%128):Nat):Int)=(n:Int)+((c.toNat%128:Nat):Int)*1:=by omega
  have hp:(s.length:Int)-(l.length:Int)=(a:Int)+0+1:=by omega
  by_cases h7:127<c.toNat
  ·have ih:=f8i s l a (n+1*(c.toNat%128)) hm ha (by simpa [Nat.add_assoc]using hd2) (by omega)
   simp only[N4,if_pos h7,Nat.reduceMul]
   rw[<-ih]
   rw[hcast]
   clear ih hd hd2 hcast hp hL
   generalize c.toNat%128=m at*
   exact lp W6
  ·by_cases hv:1000000000<n+1*(c.toNat%128)
   ·exact absurd hv (by omega)
   ·have hno: ¬((1<1∧c.toNat=0)∨1000000000<n+1*(c.toNat%128)):=by omega
    simp only[N4,if_neg h7,Nat.reduceMul,if_neg hno]
    rw[hp,hcast]
    clear hd hd2 hcast hp hL hno
    generalize c.toNat%128=m at*
    exact lp W6
end
end Go.Vsi
