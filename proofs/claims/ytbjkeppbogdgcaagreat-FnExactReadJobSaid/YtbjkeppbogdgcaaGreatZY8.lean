/- What the functions of the program, of the reference and of the law do (a part of it). -/
import Derived.Test.YtbjkeppbogdgcaaGreatZY6
namespace Go.Vsi
open Go.Proofs
noncomputable section
set_option maxRecDepth 100000
set_option maxHeartbeats 4000000
set_option linter.unusedSimpArgs false
set_option linter.unusedVariables false
attribute [local go_sem ↓] v6
def L9:Nat->Nat->Nat->List UInt8->List UInt8->Option (Option (Nat×List UInt8))
 |0,_,_,_,_=>none
 |_+1,_,_,_,[]=>none
 |f+1,w,n,p,c::l=>if 127<c.toNat then L9 f (w*128) (n+w*(c.toNat%128)) (p++[c]) l else if 1000000000<n+w*(c.toNat%128)∨ ¬v5 (n+w*(c.toNat%128))=p++[c]then some none else some (some (n+w*(c.toNat%128),l))
theorem f8k(s:List UInt8)(a n:Nat)(hm:s.length<=1000000000)(ha:a<=s.length):g8 Tryz.prog T1 (c6 Tryz.prog T1 L1) 32 (cq Tryz.f32 [0,0,1,0,1,1,1,1]) ⟨[.one (.c (.d (.v (.string (B (s)))))),.one (.c (.d (.v (.int .i64 ((a:Int)))))),J,J,J,J,J,.one (.c (.d (.v (.int .i64 ((n:Int)))))),.one (.c (.d (.v (.int .i64 (34359738368))))),.one (.c (.d (.v (.int .i64 ((a:Int)+5))))),J,J,J,J,J,J,J,J,J,J,J,J,J,J,J,J,J,J,J,J,J,J,J,J,J,J,J,J,J,J,J,J,J,J,J,J,J,J,J,J,J,J,J,J,J,J,J,J],c7 [],0,0⟩=some (.exit 0,⟨[J,J,J,J,J,J,J,J,J,J,J,J,J,J,J,J,J,J,J,J,J,J,J,J,J,J,J,J,J,J,J,J,J,J,J,J,J,J,J,J,J,J,J,J,J,J,J,J,J,J,J,J,J,J,J,J,J,J],c7 [],0,0⟩):=by
 exact lp T7
theorem f8l(s l p:List UInt8)(a n:Nat)(hm:s.length<=1000000000)(ha:a<=s.length)(hd:s.drop (a+4)=l)(hp:(s.drop a).take 4=p)(hn:n<268435456):g8 Tryz.prog T1 (c6 Tryz.prog T1 L1) 32 (cq Tryz.f32 [0,0,1,0,1,1,1,1]) ⟨[.one (.c (.d (.v (.string (B (s)))))),.one (.c (.d (.v (.int .i64 ((a:Int)))))),J,J,J,J,J,.one (.c (.d (.v (.int .i64 ((n:Int)))))),.one (.c (.d (.v (.int .i64 (268435456))))),.one (.c (.d (.v (.int .i64 ((a:Int)+4))))),J,J,J,J,J,J,J,J,J,J,J,J,J,J,J,J,J,J,J,J,J,J,J,J,J,J,J,J,J,J,J,J,J,J,J,J,J,J,J,J,J,J,J,J,J,J,J,J],c7 [],0,0⟩=match L9 1 268435456 n p l with
 |none=>some (.exit 0,⟨[J,J,J,J,J,J,J,J,J,J,J,J,J,J,J,J,J,J,J,J,J,J,J,J,J,J,J,J,J,J,J,J,J,J,J,J,J,J,J,J,J,J,J,J,J,J,J,J,J,J,J,J,J,J,J,J,J,J],c7 [],0,0⟩)
 |some none=>some (.ret,⟨[J,J,J,J,.one (.c (.d (.v (.int .i64 (0))))),.one (.c (.d (.v (.int .i64 (0))))),.one (.c (.d (.v (.bool (false))))),J,J,J,J,J,J,J,J,J,J,J,J,J,J,J,J,J,J,J,J,J,J,J,J,J,J,J,J,J,J,J,J,J,J,J,J,J,J,J,J,J,J,J,J,J,J,J,J,J,J,J],c7 [],0,0⟩)
 |some (some (v,r))=>some (.ret,⟨[J,J,J,J,.one (.c (.d (.v (.int .i64 ((v:Int)))))),.one (.c (.d (.v (.int .i64 ((s.length:Int)-(r.length:Int)))))),.one (.c (.d (.v (.bool (true))))),J,J,J,J,J,J,J,J,J,J,J,J,J,J,J,J,J,J,J,J,J,J,J,J,J,J,J,J,J,J,J,J,J,J,J,J,J,J,J,J,J,J,J,J,J,J,J,J,J,J,J],c7 [],0,0⟩):=by
 cases l with
 |nil=>
  have hl:s.length<=a+4:=List.drop_eq_nil_iff.1 hd
  simp only[L9]
  clear hd hp
  exact lp T7
 |cons c l=>
  have hl:a+4<s.length:=by
   have:=congrArg List.length hd
   rw[List.length_drop,List.length_cons]at this
   omega
  have hL:l.length+a+5=s.length:=by
   have:=congrArg List.length hd
   rw[List.length_drop,List.length_cons]at this
   omega
  have hd2:s.drop (a+4+1)=l:=by rw[<-List.drop_drop,hd];rfl
  have hp2:(s.drop a).take 5=p++[c]:=by
   rw[List.take_add_one,hp,List.getElem?_drop,<-List.head?_drop,hd];rfl
  have hc: ∀h:((a:Int)+4).toNat<s.length,s[((a:Int)+4).toNat]'h=c:=fun h=>by
   have e:((a:Int)+4).toNat=a+4:=by omega
   have h2:s[a+4]?=some c:=by rw[<-List.head?_drop,hd];rfl
   have h3:s[((a:Int)+4).toNat]?=some c:=by rw[e];exact h2
   exact(List.getElem?_eq_some_iff.1 h3).2
  have hb:c.toNat<256:=c.toNat_lt
  have t1:((c.toNat:Int)).tmod 128=((c.toNat%128:Nat):Int):=a3e _ 128
  have hz:(128:Int)≠0:=by decide
  have hi:(a:Int)+4+1=(a:Int)+5:=by omega
  have hw:(268435456:Int)*128=34359738368:=rfl
  have hm2:c.toNat%128<=127:=by omega
  have hx:((c.toNat%128:Nat):Int)*268435456=((268435456*(c.toNat%128):Nat):Int):=by omega
  have hx2:268435456*(c.toNat%128)<=34091302912:=by omega
  have hcast:((n+268435456*(c.toNat%128):Nat):Int)=(n:Int)+((268435456*(c.toNat%128):Nat):Int):=by omega
  have hq:(s.length:Int)-(l.length:Int)=(a:Int)+5:=by omega
  by_cases h7:127<c.toNat
  ·have ih:=f8k s a (n+268435456*(c.toNat%128)) hm ha
   simp only[L9,if_pos h7,Nat.reduceMul]
   rw[hcast]at ih
   clear hd hd2 hcast hp hp2 hL hq
   generalize 268435456*(c.toNat%128)=x at*
   generalize c.toNat%128=m at*
   exact lp T7
  ·have hw2:=F4 (n+268435456*(c.toNat%128)) (by omega)
   have hsl:(s.drop a).take (((a:Int)+5).toNat-a)=p++[c]:=by
    rw[<-hp2,show((a:Int)+5).toNat-a=5 by omega]
   by_cases hv:1000000000<n+268435456*(c.toNat%128)
   ·simp only[L9,if_neg h7,Nat.reduceMul,if_pos (Or.inl hv)]
    rw[hcast]at hw2
    generalize v5 (n+268435456*(c.toNat%128))=E at hw2
    clear hd hd2 hcast hp hp2 hL hq
    generalize 268435456*(c.toNat%128)=x at*
    generalize c.toNat%128=m at*
    exact lp T7
   ·by_cases he:v5 (n+268435456*(c.toNat%128))=p++[c]
    ·have hno: ¬(1000000000<n+268435456*(c.toNat%128)∨ ¬v5 (n+268435456*(c.toNat%128))=p++[c]):=fun h=>h.elim hv fun h=>h he
     simp only[L9,if_neg h7,Nat.reduceMul,if_neg hno]
     rw[he]at hw2
     rw[hcast]at hw2
     rw[hcast,hq]
     clear hd hd2 hcast hp hp2 hL hq he hno
     generalize 268435456*(c.toNat%128)=x at*
     generalize c.toNat%128=m at*
     generalize p++[c]=E at*
     exact lp T7
    ·simp only[L9,if_neg h7,Nat.reduceMul,if_pos (Or.inr he)]
     rw[hcast]at hw2
     generalize v5 (n+268435456*(c.toNat%128))=E at hw2 he
     clear hd hd2 hcast hp hp2 hL hq
     generalize 268435456*(c.toNat%128)=x at*
     generalize c.toNat%128=m at*
     generalize p++[c]=E2 at*
     exact lp T7
theorem f8m(s l p:List UInt8)(a n:Nat)(hm:s.length<=1000000000)(ha:a<=s.length)(hd:s.drop (a+3)=l)(hp:(s.drop a).take 3=p)(hn:n<2097152):g8 Tryz.prog T1 (c6 Tryz.prog T1 L1) 32 (cq Tryz.f32 [0,0,1,0,1,1,1,1]) ⟨[.one (.c (.d (.v (.string (B (s)))))),.one (.c (.d (.v (.int .i64 ((a:Int)))))),J,J,J,J,J,.one (.c (.d (.v (.int .i64 ((n:Int)))))),.one (.c (.d (.v (.int .i64 (2097152))))),.one (.c (.d (.v (.int .i64 ((a:Int)+3))))),J,J,J,J,J,J,J,J,J,J,J,J,J,J,J,J,J,J,J,J,J,J,J,J,J,J,J,J,J,J,J,J,J,J,J,J,J,J,J,J,J,J,J,J,J,J,J,J],c7 [],0,0⟩=match L9 2 2097152 n p l with
 |none=>some (.exit 0,⟨[J,J,J,J,J,J,J,J,J,J,J,J,J,J,J,J,J,J,J,J,J,J,J,J,J,J,J,J,J,J,J,J,J,J,J,J,J,J,J,J,J,J,J,J,J,J,J,J,J,J,J,J,J,J,J,J,J,J],c7 [],0,0⟩)
 |some none=>some (.ret,⟨[J,J,J,J,.one (.c (.d (.v (.int .i64 (0))))),.one (.c (.d (.v (.int .i64 (0))))),.one (.c (.d (.v (.bool (false))))),J,J,J,J,J,J,J,J,J,J,J,J,J,J,J,J,J,J,J,J,J,J,J,J,J,J,J,J,J,J,J,J,J,J,J,J,J,J,J,J,J,J,J,J,J,J,J,J,J,J,J],c7 [],0,0⟩)
 |some (some (v,r))=>some (.ret,⟨[J,J,J,J,.one (.c (.d (.v (.int .i64 ((v:Int)))))),.one (.c (.d (.v (.int .i64 ((s.length:Int)-(r.length:Int)))))),.one (.c (.d (.v (.bool (true))))),J,J,J,J,J,J,J,J,J,J,J,J,J,J,J,J,J,J,J,J,J,J,J,J,J,J,J,J,J,J,J,J,J,J,J,J,J,J,J,J,J,J,J,J,J,J,J,J,J,J,J],c7 [],0,0⟩):=by
 cases l with
 |nil=>
  have hl:s.length<=a+3:=List.drop_eq_nil_iff.1 hd
  simp only[L9]
  clear hd hp
  exact lp T7
 |cons c l=>
  have hl:a+3<s.length:=by
   have:=congrArg List.length hd
   rw[List.length_drop,List.length_cons]at this
   omega
  have hL:l.length+a+4=s.length:=by
   have:=congrArg List.length hd
   rw[List.length_drop,List.length_cons]at this
   omega
  have hd2:s.drop (a+3+1)=l:=by rw[<-List.drop_drop,hd];rfl
  have hp2:(s.drop a).take 4=p++[c]:=by
   rw[List.take_add_one,hp,List.getElem?_drop,<-List.head?_drop,hd];rfl
  have hc: ∀h:((a:Int)+3).toNat<s.length,s[((a:Int)+3).toNat]'h=c:=fun h=>by
   have e:((a:Int)+3).toNat=a+3:=by omega
   have h2:s[a+3]?=some c:=by rw[<-List.head?_drop,hd];rfl
   have h3:s[((a:Int)+3).toNat]?=some c:=by rw[e];exact h2
   exact(List.getElem?_eq_some_iff.1 h3).2
  have hb:c.toNat<256:=c.toNat_lt
  have t1:((c.toNat:Int)).tmod 128=((c.toNat%128:Nat):Int):=a3e _ 128
  have hz:(128:Int)≠0:=by decide
  have hi:(a:Int)+3+1=(a:Int)+4:=by omega
  have hw:(2097152:Int)*128=268435456:=rfl
  have hm2:c.toNat%128<=127:=by omega
  have hx:((c.toNat%128:Nat):Int)*2097152=((2097152*(c.toNat%128):Nat):Int):=by omega
  have hx2:2097152*(c.toNat%128)<=266338304:=by omega
  have hcast:((n+2097152*(c.toNat%128):Nat):Int)=(n:Int)+((2097152*(c.toNat%128):Nat):Int):=by omega
  have hq:(s.length:Int)-(l.length:Int)=(a:Int)+4:=by omega
  by_cases h7:127<c.toNat
  ·have ih:=f8l s l (p++[c]) a (n+2097152*(c.toNat%128)) hm ha (by simpa [Nat.add_assoc]using hd2) hp2 (by omega)
   simp only[L9,if_pos h7,Nat.reduceMul]
   rw[<-ih]
   rw[hcast]
   clear ih hd hd2 hcast hp hp2 hL hq
   generalize 2097152*(c.toNat%128)=x at*
   generalize c.toNat%128=m at*
   exact lp T7
  ·have hw2:=F4 (n+2097152*(c.toNat%128)) (by omega)
   have hsl:(s.drop a).take (((a:Int)+4).toNat-a)=p++[c]:=by
    rw[<-hp2,show((a:Int)+4).toNat-a=4 by omega]
   have hv: ¬1000000000<n+2097152*(c.toNat%128):=by omega
   by_cases he:v5 (n+2097152*(c.toNat%128))=p++[c]
   ·have hno: ¬(1000000000<n+2097152*(c.toNat%128)∨ ¬v5 (n+2097152*(c.toNat%128))=p++[c]):=fun h=>h.elim hv fun h=>h he
    simp only[L9,if_neg h7,Nat.reduceMul,if_neg hno]
    rw[he]at hw2
    rw[hcast]at hw2
    rw[hcast,hq]
    clear hd hd2 hcast hp hp2 hL hq he hno
    generalize 2097152*(c.toNat%128)=x at*
    generalize c.toNat%128=m at*
    generalize p++[c]=E at*
    exact lp T7
   ·simp only[L9,if_neg h7,Nat.reduceMul,if_pos (Or.inr he)]
    rw[hcast]at hw2
    generalize v5 (n+2097152*(c.toNat%128))=E at hw2 he
    clear hd hd2 hcast hp hp2 hL hq
    generalize 2097152*(c.toNat%128)=x at*
    generalize c.toNat%128=m at*
    generalize p++[c]=E2 at*
    exact lp T7
theorem f8n(s l p:List UInt8)(a n:Nat)(hm:s.length<=1000000000)(ha:a<=s.length)(hd:s.drop (a+2)=l)(hp:(s.drop a).take 2=p)(hn:n<16384):g8 Tryz.prog T1 (c6 Tryz.prog T1 L1) 32 (cq Tryz.f32 [0,0,1,0,1,1,1,1]) ⟨[.one (.c (.d (.v (.string (B (s)))))),.one (.c (.d (.v (.int .i64 ((a:Int)))))),J,J,J,J,J,.one (.c (.d (.v (.int .i64 ((n:Int)))))),.one (.c (.d (.v (.int .i64 (16384))))),.one (.c (.d (.v (.int .i64 ((a:Int)+2))))),J,J,J,J,J,J,J,J,J,J,J,J,J,J,J,J,J,J,J,J,J,J,J,J,J,J,J,J,J,J,J,J,J,J,J,J,J,J,J,J,J,J,J,J,J,J,J,J],c7 [],0,0⟩=match L9 3 16384 n p l with
 |none=>some (.exit 0,⟨[J,J,J,J,J,J,J,J,J,J,J,J,J,J,J,J,J,J,J,J,J,J,J,J,J,J,J,J,J,J,J,J,J,J,J,J,J,J,J,J,J,J,J,J,J,J,J,J,J,J,J,J,J,J,J,J,J,J],c7 [],0,0⟩)
 |some none=>some (.ret,⟨[J,J,J,J,.one (.c (.d (.v (.int .i64 (0))))),.one (.c (.d (.v (.int .i64 (0))))),.one (.c (.d (.v (.bool (false))))),J,J,J,J,J,J,J,J,J,J,J,J,J,J,J,J,J,J,J,J,J,J,J,J,J,J,J,J,J,J,J,J,J,J,J,J,J,J,J,J,J,J,J,J,J,J,J,J,J,J,J],c7 [],0,0⟩)
 |some (some (v,r))=>some (.ret,⟨[J,J,J,J,.one (.c (.d (.v (.int .i64 ((v:Int)))))),.one (.c (.d (.v (.int .i64 ((s.length:Int)-(r.length:Int)))))),.one (.c (.d (.v (.bool (true))))),J,J,J,J,J,J,J,J,J,J,J,J,J,J,J,J,J,J,J,J,J,J,J,J,J,J,J,J,J,J,J,J,J,J,J,J,J,J,J,J,J,J,J,J,J,J,J,J,J,J,J],c7 [],0,0⟩):=by
 cases l with
 |nil=>
  have hl:s.length<=a+2:=List.drop_eq_nil_iff.1 hd
  simp only[L9]
  clear hd hp
  exact lp T7
 |cons c l=>
  have hl:a+2<s.length:=by
   have:=congrArg List.length hd
   rw[List.length_drop,List.length_cons]at this
   omega
  have hL:l.length+a+3=s.length:=by
   have:=congrArg List.length hd
   rw[List.length_drop,List.length_cons]at this
   omega
  have hd2:s.drop (a+2+1)=l:=by rw[<-List.drop_drop,hd];rfl
  have hp2:(s.drop a).take 3=p++[c]:=by
   rw[List.take_add_one,hp,List.getElem?_drop,<-List.head?_drop,hd];rfl
  have hc: ∀h:((a:Int)+2).toNat<s.length,s[((a:Int)+2).toNat]'h=c:=fun h=>by
   have e:((a:Int)+2).toNat=a+2:=by omega
   have h2:s[a+2]?=some c:=by rw[<-List.head?_drop,hd];rfl
   have h3:s[((a:Int)+2).toNat]?=some c:=by rw[e];exact h2
   exact(List.getElem?_eq_some_iff.1 h3).2
  have hb:c.toNat<256:=c.toNat_lt
  have t1:((c.toNat:Int)).tmod 128=((c.toNat%128:Nat):Int):=a3e _ 128
  have hz:(128:Int)≠0:=by decide
  have hi:(a:Int)+2+1=(a:Int)+3:=by omega
  have hw:(16384:Int)*128=2097152:=rfl
  have hm2:c.toNat%128<=127:=by omega
  have hx:((c.toNat%128:Nat):Int)*16384=((16384*(c.toNat%128):Nat):Int):=by omega
  have hx2:16384*(c.toNat%128)<=2080768:=by omega
  have hcast:((n+16384*(c.toNat%128):Nat):Int)=(n:Int)+((16384*(c.toNat%128):Nat):Int):=by omega
  have hq:(s.length:Int)-(l.length:Int)=(a:Int)+3:=by omega
  by_cases h7:127<c.toNat
  ·have ih:=f8m s l (p++[c]) a (n+16384*(c.toNat%128)) hm ha (by simpa [Nat.add_assoc]using hd2) hp2 (by omega)
   simp only[L9,if_pos h7,Nat.reduceMul]
   rw[<-ih]
   rw[hcast]
   clear ih hd hd2 hcast hp hp2 hL hq
   generalize 16384*(c.toNat%128)=x at*
   generalize c.toNat%128=m at*
   exact lp T7
  ·have hw2:=F4 (n+16384*(c.toNat%128)) (by omega)
   have hsl:(s.drop a).take (((a:Int)+3).toNat-a)=p++[c]:=by
    rw[<-hp2,show((a:Int)+3).toNat-a=3 by omega]
   have hv: ¬1000000000<n+16384*(c.toNat%128):=by omega
   by_cases he:v5 (n+16384*(c.toNat%128))=p++[c]
   ·have hno: ¬(1000000000<n+16384*(c.toNat%128)∨ ¬v5 (n+16384*(c.toNat%128))=p++[c]):=fun h=>h.elim hv fun h=>h he
    simp only[L9,if_neg h7,Nat.reduceMul,if_neg hno]
    rw[he]at hw2
    rw[hcast]at hw2
    rw[hcast,hq]
    clear hd hd2 hcast hp hp2 hL hq he hno
    generalize 16384*(c.toNat%128)=x at*
    generalize c.toNat%128=m at*
    generalize p++[c]=E at*
    exact lp T7
   ·simp only[L9,if_neg h7,Nat.reduceMul,if_pos (Or.inr he)]
    rw[hcast]at hw2
    generalize v5 (n+16384*(c.toNat%128))=E at hw2 he
    clear hd hd2 hcast hp hp2 hL hq
    generalize 16384*(c.toNat%128)=x at*
    generalize c.toNat%128=m at*
    generalize p++[c]=E2 at*
    exact lp T7
theorem f8o(s l p:List UInt8)(a n:Nat)(hm:s.length<=1000000000)(ha:a<=s.length)(hd:s.drop (a+1)=l)(hp:(s.drop a).take 1=p)(hn:n<128):g8 Tryz.prog T1 (c6 Tryz.prog T1 L1) 32 (cq Tryz.f32 [0,0,1,0,1,1,1,1]) ⟨[.one (.c (.d (.v (.string (B (s)))))),.one (.c (.d (.v (.int .i64 ((a:Int)))))),J,J,J,J,J,.one (.c (.d (.v (.int .i64 ((n:Int)))))),.one (.c (.d (.v (.int .i64 (128))))),.one (.c (.d (.v (.int .i64 ((a:Int)+1))))),J,J,J,J,J,J,J,J,J,J,J,J,J,J,J,J,J,J,J,J,J,J,J,J,J,J,J,J,J,J,J,J,J,J,J,J,J,J,J,J,J,J,J,J,J,J,J,J],c7 [],0,0⟩=match L9 4 128 n p l with
 |none=>some (.exit 0,⟨[J,J,J,J,J,J,J,J,J,J,J,J,J,J,J,J,J,J,J,J,J,J,J,J,J,J,J,J,J,J,J,J,J,J,J,J,J,J,J,J,J,J,J,J,J,J,J,J,J,J,J,J,J,J,J,J,J,J],c7 [],0,0⟩)
 |some none=>some (.ret,⟨[J,J,J,J,.one (.c (.d (.v (.int .i64 (0))))),.one (.c (.d (.v (.int .i64 (0))))),.one (.c (.d (.v (.bool (false))))),J,J,J,J,J,J,J,J,J,J,J,J,J,J,J,J,J,J,J,J,J,J,J,J,J,J,J,J,J,J,J,J,J,J,J,J,J,J,J,J,J,J,J,J,J,J,J,J,J,J,J],c7 [],0,0⟩)
 |some (some (v,r))=>some (.ret,⟨[J,J,J,J,.one (.c (.d (.v (.int .i64 ((v:Int)))))),.one (.c (.d (.v (.int .i64 ((s.length:Int)-(r.length:Int)))))),.one (.c (.d (.v (.bool (true))))),J,J,J,J,J,J,J,J,J,J,J,J,J,J,J,J,J,J,J,J,J,J,J,J,J,J,J,J,J,J,J,J,J,J,J,J,J,J,J,J,J,J,J,J,J,J,J,J,J,J,J],c7 [],0,0⟩):=by
 cases l with
 |nil=>
  have hl:s.length<=a+1:=List.drop_eq_nil_iff.1 hd
  simp only[L9]
  clear hd hp
  exact lp T7
 |cons c l=>
  have hl:a+1<s.length:=by
   have:=congrArg List.length hd
   rw[List.length_drop,List.length_cons]at this
   omega
  have hL:l.length+a+2=s.length:=by
   have:=congrArg List.length hd
   rw[List.length_drop,List.length_cons]at this
   omega
  have hd2:s.drop (a+1+1)=l:=by rw[<-List.drop_drop,hd];rfl
  have hp2:(s.drop a).take 2=p++[c]:=by
   rw[List.take_add_one,hp,List.getElem?_drop,<-List.head?_drop,hd];rfl
  have hc: ∀h:((a:Int)+1).toNat<s.length,s[((a:Int)+1).toNat]'h=c:=fun h=>by
   have e:((a:Int)+1).toNat=a+1:=by omega
   have h2:s[a+1]?=some c:=by rw[<-List.head?_drop,hd];rfl
   have h3:s[((a:Int)+1).toNat]?=some c:=by rw[e];exact h2
   exact(List.getElem?_eq_some_iff.1 h3).2
  have hb:c.toNat<256:=c.toNat_lt
  have t1:((c.toNat:Int)).tmod 128=((c.toNat%128:Nat):Int):=a3e _ 128
  have hz:(128:Int)≠0:=by decide
  have hi:(a:Int)+1+1=(a:Int)+2:=by omega
  have hw:(128:Int)*128=16384:=rfl
  have hm2:c.toNat%128<=127:=by omega
  have hx:((c.toNat%128:Nat):Int)*128=((128*(c.toNat%128):Nat):Int):=by omega
  have hx2:128*(c.toNat%128)<=16256:=by omega
  have hcast:((n+128*(c.toNat%128):Nat):Int)=(n:Int)+((128*(c.toNat%128):Nat):Int):=by omega
  have hq:(s.length:Int)-(l.length:Int)=(a:Int)+2:=by omega
  by_cases h7:127<c.toNat
  ·have ih:=f8n s l (p++[c]) a (n+128*(c.toNat%128)) hm ha (by simpa [Nat.add_assoc]using hd2) hp2 (by omega)
   simp only[L9,if_pos h7,Nat.reduceMul]
   rw[<-ih]
   rw[hcast]
   clear ih hd hd2 hcast hp hp2 hL hq
   generalize 128*(c.toNat%128)=x at*
   generalize c.toNat%128=m at*
   exact lp T7
  ·have hw2:=F4 (n+128*(c.toNat%128)) (by omega)
   have hsl:(s.drop a).take (((a:Int)+2).toNat-a)=p++[c]:=by
    rw[<-hp2,show((a:Int)+2).toNat-a=2 by omega]
   have hv: ¬1000000000<n+128*(c.toNat%128):=by omega
   by_cases he:v5 (n+128*(c.toNat%128))=p++[c]
   ·have hno: ¬(1000000000<n+128*(c.toNat%128)∨ ¬v5 (n+128*(c.toNat%128))=p++[c]):=fun h=>h.elim hv fun h=>h he
    simp only[L9,if_neg h7,Nat.reduceMul,if_neg hno]
    rw[he]at hw2
    rw[hcast]at hw2
    rw[hcast,hq]
    clear hd hd2 hcast hp hp2 hL hq he hno
    generalize 128*(c.toNat%128)=x at*
    generalize c.toNat%128=m at*
    generalize p++[c]=E at*
    exact lp T7
   ·simp only[L9,if_neg h7,Nat.reduceMul,if_pos (Or.inr he)]
    rw[hcast]at hw2
    generalize v5 (n+128*(c.toNat%128))=E at hw2 he
    clear hd hd2 hcast hp hp2 hL hq
    generalize 128*(c.toNat%128)=x at*
    generalize c.toNat%128=m at*
    generalize p++[c]=E2 at*
    exact lp T7
theorem f8p(s l p:List UInt8)(a n:Nat)(hm:s.length<=1000000000)(ha:a<=s.length)(hd:s.drop (a+0)=l)(hp:(s.drop a).take 0=p)(hn:n<1):g8 Tryz.prog T1 (c6 Tryz.prog T1 L1) 32 (cq Tryz.f32 [0,0,1,0,1,1,1,1]) ⟨[.one (.c (.d (.v (.string (B (s)))))),.one (.c (.d (.v (.int .i64 ((a:Int)))))),J,J,J,J,J,.one (.c (.d (.v (.int .i64 ((n:Int)))))),.one (.c (.d (.v (.int .i64 (1))))),.one (.c (.d (.v (.int .i64 ((a:Int)+0))))),J,J,J,J,J,J,J,J,J,J,J,J,J,J,J,J,J,J,J,J,J,J,J,J,J,J,J,J,J,J,J,J,J,J,J,J,J,J,J,J,J,J,J,J,J,J,J,J],c7 [],0,0⟩=match L9 5 1 n p l with
 |none=>some (.exit 0,⟨[J,J,J,J,J,J,J,J,J,J,J,J,J,J,J,J,J,J,J,J,J,J,J,J,J,J,J,J,J,J,J,J,J,J,J,J,J,J,J,J,J,J,J,J,J,J,J,J,J,J,J,J,J,J,J,J,J,J],c7 [],0,0⟩)
 |some none=>some (.ret,⟨[J,J,J,J,.one (.c (.d (.v (.int .i64 (0))))),.one (.c (.d (.v (.int .i64 (0))))),.one (.c (.d (.v (.bool (false))))),J,J,J,J,J,J,J,J,J,J,J,J,J,J,J,J,J,J,J,J,J,J,J,J,J,J,J,J,J,J,J,J,J,J,J,J,J,J,J,J,J,J,J,J,J,J,J,J,J,J,J],c7 [],0,0⟩)
 |some (some (v,r))=>some (.ret,⟨[J,J,J,J,.one (.c (.d (.v (.int .i64 ((v:Int)))))),.one (.c (.d (.v (.int .i64 ((s.length:Int)-(r.length:Int)))))),.one (.c (.d (.v (.bool (true))))),J,J,J,J,J,J,J,J,J,J,J,J,J,J,J,J,J,J,J,J,J,J,J,J,J,J,J,J,J,J,J,J,J,J,J,J,J,J,J,J,J,J,J,J,J,J,J,J,J,J,J],c7 [],0,0⟩):=by
 cases l with
 |nil=>
  have hl:s.length<=a+0:=List.drop_eq_nil_iff.1 hd
  simp only[L9]
  clear hd hp
  exact lp T7
 |cons c l=>
  have hl:a+0<s.length:=by
   have:=congrArg List.length hd
   rw[List.length_drop,List.length_cons]at this
   omega
  have hL:l.length+a+1=s.length:=by
   have:=congrArg List.length hd
   rw[List.length_drop,List.length_cons]at this
   omega
  have hd2:s.drop (a+0+1)=l:=by rw[<-List.drop_drop,hd];rfl
  have hp2:(s.drop a).take 1=p++[c]:=by
   rw[List.take_add_one,hp,List.getElem?_drop,<-List.head?_drop,hd];rfl
  have hc: ∀h:((a:Int)+0).toNat<s.length,s[((a:Int)+0).toNat]'h=c:=fun h=>by
   have e:((a:Int)+0).toNat=a+0:=by omega
   have h2:s[a+0]?=some c:=by rw[<-List.head?_drop,hd];rfl
   have h3:s[((a:Int)+0).toNat]?=some c:=by rw[e];exact h2
   exact(List.getElem?_eq_some_iff.1 h3).2
  have hb:c.toNat<256:=c.toNat_lt
  have t1:((c.toNat:Int)).tmod 128=((c.toNat%128:Nat):Int):=a3e _ 128
  have hz:(128:Int)≠0:=by decide
  have hi:(a:Int)+0+1=(a:Int)+1:=by omega
  have hw:(1:Int)*128=128:=rfl
  have hm2:c.toNat%128<=127:=by omega
  have hx:((c.toNat%128:Nat):Int)*1=((1*(c.toNat%128):Nat):Int):=by omega
  have hx2:1*(c.toNat%128)<=127:=by omega
  have hcast:((n+1*(c.toNat%128):Nat):Int)=(n:Int)+((1*(c.toNat%128):Nat):Int):=by omega
  have hq:(s.length:Int)-(l.length:Int)=(a:Int)+1:=by omega
  by_cases h7:127<c.toNat
  ·have ih:=f8o s l (p++[c]) a (n+1*(c.toNat%128)) hm ha (by simpa [Nat.add_assoc]using hd2) hp2 (by omega)
   simp only[L9,if_pos h7,Nat.reduceMul]
   rw[<-ih]
   rw[hcast]
   clear ih hd hd2 hcast hp hp2 hL hq
   generalize 1*(c.toNat%128)=x at*
   generalize c.toNat%128=m at*
   exact lp T7
  ·have hw2:=F4 (n+1*(c.toNat%128)) (by omega)
   have hsl:(s.drop a).take (((a:Int)+1).toNat-a)=p++[c]:=by
    rw[<-hp2,show((a:Int)+1).toNat-a=1 by omega]
   have hv: ¬1000000000<n+1*(c.toNat%128):=by omega
   by_cases he:v5 (n+1*(c.toNat%128))=p++[c]
   ·have hno: ¬(1000000000<n+1*(c.toNat%128)∨ ¬v5 (n+1*(c.toNat%128))=p++[c]):=fun h=>h.elim hv fun h=>h he
    simp only[L9,if_neg h7,Nat.reduceMul,if_neg hno]
    rw[he]at hw2
    rw[hcast]at hw2
    rw[hcast,hq]
    clear hd hd2 hcast hp hp2 hL hq he hno
    generalize 1*(c.toNat%128)=x at*
    generalize c.toNat%128=m at*
    generalize p++[c]=E at*
    exact lp T7
   ·simp only[L9,if_neg h7,Nat.reduceMul,if_pos (Or.inr he)]
    rw[hcast]at hw2
    generalize v5 (n+1*(c.toNat%128))=E at hw2 he
    clear hd hd2 hcast hp hp2 hL hq
    generalize 1*(c.toNat%128)=x at*
    generalize c.toNat%128=m at*
    generalize p++[c]=E2 at*
    exact lp T7
end
end Go.Vsi
