/- What the functions of the program, of the reference and of the law do (a part of it). -/
import Derived.Test.YtbjkeppbogdgcaaGreatZY31
import Derived.Test.YtbjkeppbogdgcaaGreatZY34
namespace Go.Vsi
open Go.Proofs
noncomputable section
set_option maxRecDepth 100000
set_option maxHeartbeats 4000000
set_option linter.unusedSimpArgs false
set_option linter.unusedVariables false
attribute [local go_sem ↓] v6
def i2{α:Type}(f:List UInt8->Bool->α×List UInt8×Bool):Nat->List UInt8->Bool->List α×List UInt8×Bool
 |0,l,b=>([],l,b)
 |n+1,l,b=>((f l b).1::(i2 f n (f l b).2.1 (f l b).2.2).1,(i2 f n (f l b).2.1 (f l b).2.2).2)
def e9{α:Type}(f:List UInt8->Bool->α×List UInt8×Bool):Nat->List UInt8->Bool->List α×List UInt8×Bool
 |0,l,b=>([],l,b)
 |n+1,l,b=>if b=true then([],l,true)else((f l b).1::(e9 f n (f l b).2.1 (f l b).2.2).1,(e9 f n (f l b).2.1 (f l b).2.2).2)
def o4:Nat->List UInt8->Bool->List i6×List UInt8×Bool
 |0,l,b=>([],l,b)
 |n+1,l,b=>if b=true then([],l,true)else match rdI l with
  |some ((x,y),r)=>(⟨(x.toNat:Int),(y.toNat:Int)⟩::(o4 n r false).1,(o4 n r false).2)
  |none=>([],l,true)
def r5(l:List UInt8)(b:Bool):v9×List UInt8×Bool:=(⟨(nS l b).1,(nS (nS l b).2.1 (nS l b).2.2).1⟩,(nS (nS l b).2.1 (nS l b).2.2).2)
def i4(l:List UInt8)(b:Bool):q9×List UInt8×Bool:=(⟨(nS l b).1,(nS (nS l b).2.1 (nS l b).2.2).1,(nS (nS (nS l b).2.1 (nS l b).2.2).2.1 (nS (nS l b).2.1 (nS l b).2.2).2.2).1⟩,(nS (nS (nS l b).2.1 (nS l b).2.2).2.1 (nS (nS l b).2.1 (nS l b).2.2).2.2).2)
def r4(l:List UInt8)(b:Bool):i6×List UInt8×Bool:=(⟨((nO l b).1:Int),((nO (nO l b).2.1 (nO l b).2.2).1:Int)⟩,(nO (nO l b).2.1 (nO l b).2.2).2)
def b9e{α:Type}(f:List UInt8->Bool->α×List UInt8×Bool):Prop:= ∀s l b,l<:+s->(f l b).2.1<:+s
theorem J6:b9e nS:=fun s l b h=>n7 b h
theorem a6p:b9e r5:=fun s l b h=>n7 _ (n7 b h)
theorem N9:b9e i4:=fun s l b h=>n7 _ (n7 _ (n7 b h))
theorem a2i:b9e r4:=fun s l b h=>a1i _ (a1i b h)
theorem P4{α:Type}{f:List UInt8->Bool->α×List UInt8×Bool}(hf:b9e f): ∀(n:Nat)(s l:List UInt8)(b:Bool),l<:+s->(i2 f n l b).2.1<:+s
 |0,s,l,b,h=>h
 |n+1,s,l,b,h=>P4 hf n s _ _ (hf s l b h)
theorem L4{α:Type}(f:List UInt8->Bool->α×List UInt8×Bool): ∀(n:Nat)(l:List UInt8)(b:Bool),(i2 f n l b).1.length=n
 |0,l,b=>rfl
 |n+1,l,b=>by simp[i2,L4 f n]
theorem a7u{α:Type}{f:List UInt8->Bool->α×List UInt8×Bool}(hf:b9e f): ∀(n:Nat)(s l:List UInt8)(b:Bool),l<:+s->(e9 f n l b).2.1<:+s
 |0,s,l,b,h=>h
 |n+1,s,l,b,h=>by
  rw[e9]
  split
  ·exact h
  ·exact a7u hf n s _ _ (hf s l b h)
theorem c4i: ∀(n:Nat)(s l:List UInt8)(b:Bool),l<:+s->(o4 n l b).2.1<:+s
 |0,s,l,b,h=>h
 |n+1,s,l,b,h=>by
  rw[o4]
  split
  ·exact h
  ·split
   ·rename_i x y r hr
    have:=b5o _ _ _ hr
    exact c4i n s _ _ (List.IsSuffix.trans ⟨d9k (x,y),this.symm⟩ h)
   ·exact h
theorem b0e{α:Type}(f:List UInt8->Bool->α×List UInt8×Bool): ∀(n:Nat)(l:List UInt8)(b:Bool),(e9 f n l b).1.length<=n
 |0,l,b=>Nat.le_refl 0
 |n+1,l,b=>by
  rw[e9]
  split
  ·simp
  ·have:=b0e f n (f l b).2.1 (f l b).2.2
   simp;omega
theorem c8k: ∀(n:Nat)(l:List UInt8)(b:Bool),(o4 n l b).1.length<=n
 |0,l,b=>Nat.le_refl 0
 |n+1,l,b=>by
  rw[o4]
  split
  ·simp
  ·split
   ·rename_i x y r hr
    have:=c8k n r false
    simp;omega
   ·simp
theorem d1y(s:List UInt8)(x:UInt8)(r:List UInt8)(h:(x::r)<:+s): ∀h:((s.length:Int)-((x::r).length:Int)).toNat<s.length,s[((s.length:Int)-((x::r).length:Int)).toNat]'h=x:=fun hh=>by
 have hd:=U8 h
 have e:((s.length:Int)-((x::r).length:Int)).toNat=s.length-(x::r).length:=by omega
 have h3:s[s.length-(x::r).length]?=some x:=by rw[<-List.head?_drop,hd];rfl
 have h4:s[((s.length:Int)-((x::r).length:Int)).toNat]?=some x:=by rw[e];exact h3
 exact(List.getElem?_eq_some_iff.1 h4).2
theorem d1z(s:List UInt8)(x y:UInt8)(r:List UInt8)(h:(x::y::r)<:+s): ∀h:((s.length:Int)-((x::y::r).length:Int)+1).toNat<s.length,s[((s.length:Int)-((x::y::r).length:Int)+1).toNat]'h=y:=fun hh=>by
 have hl:=N7 h
 simp only[List.length_cons]at hl
 have hd:=U8 ((List.suffix_cons x _).trans h)
 have e:((s.length:Int)-((x::y::r).length:Int)+1).toNat=s.length-(y::r).length:=by simp only[List.length_cons];omega
 have h3:s[s.length-(y::r).length]?=some y:=by rw[<-List.head?_drop,hd];rfl
 have h4:s[((s.length:Int)-((x::y::r).length:Int)+1).toNat]?=some y:=by rw[e];exact h3
 exact(List.getElem?_eq_some_iff.1 h4).2
theorem e8(R:List (List D))(N:Nat)(h:R.length=N):R.take N=R:=List.take_of_length_le (by omega)
def ps(s l:List UInt8):Int:=(s.length:Int)-(l.length:Int)
theorem d6f(s:List UInt8)(hm:s.length<=1000000000)(n:Nat)(hn:n<=1000000000): ∀(m i N:Nat)(R:List (List D))(l:List UInt8)(b:Bool),l<:+s->i+m=n->N+m<=100000->R.length=N->a5v s (i:Int) (n:Int) N (ps s l) b R=a4p s (N+m) (ps s (i2 nS m l b).2.1) ((i2 nS m l b).2.2) (R++rS (i2 nS m l b).1)
 |0,i,N,R,l,b,hs0,hi,hN,hR=>by
  have:i=n:=by omega
  subst this
  simp only[i2,O2,List.append_nil,Nat.add_zero]
  exact f0p s N R (ps s l) b (i:Int)
 |m+1,i,N,R,l,b,hs0,hi,hN,hR=>by
  have f1:=w7 s l b hm hs0
  have hs1:=n7 b hs0
  have hr:=f0q s N R _ _ (i:Int) (n:Int) _ _ _ (by omega) (by omega) (e8 R N hR) f1
  have ih:=d6f s hm n hn m (i+1) (N+1) (R++rS [(nS l b).1]) (nS l b).2.1 (nS l b).2.2 (J6 s l b hs0) (by omega) (by omega) (by simp[rS,hR])
  rw[show((i+1:Nat):Int)=(i:Int)+1 by omega,show N+1+m=N+(m+1) by omega,List.append_assoc,show rS [(nS l b).1]++rS (i2 nS m (nS l b).2.1 (nS l b).2.2).1=rS (i2 nS (m+1) l b).1 by simp[rS,i2]]at ih
  exact hr.trans ih
theorem f1z(s:List UInt8)(hm:s.length<=1000000000)(m:Nat)(hn:m+1<=10000)(l:List UInt8)(b:Bool)(hs0:l<:+s):a0o s 0 ((m+1:Nat):Int) (ps s l) b=a4p s (m+1) (ps s (i2 nS (m+1) l b).2.1) ((i2 nS (m+1) l b).2.2) (rS (i2 nS (m+1) l b).1):=by
 have f1:=w7 s l b hm hs0
 have hs1:=n7 b hs0
 have hr:=f0s s _ _ 0 ((m+1:Nat):Int) _ _ _ (by omega) f1
 have ih:=d6f s hm (m+1) (by omega) m 1 1 (rS [(nS l b).1]) (nS l b).2.1 (nS l b).2.2 (J6 s l b hs0) (by omega) (by omega) (by simp[rS])
 rw[show((1:Nat):Int)=0+1 from rfl,show 1+m=m+1 by omega,show rS [(nS l b).1]++rS (i2 nS m (nS l b).2.1 (nS l b).2.2).1=rS (i2 nS (m+1) l b).1 by simp[rS,i2]]at ih
 exact hr.trans ih
theorem d6g(s:List UInt8)(hm:s.length<=1000000000)(n:Nat)(hn:n<=1000000000): ∀(m i N:Nat)(R:List (List D))(l:List UInt8)(b:Bool),l<:+s->i+m=n->N+m<=100000->R.length=N->a5w s (i:Int) (n:Int) N (ps s l) b R=a4q s (N+m) (ps s (i2 r5 m l b).2.1) ((i2 r5 m l b).2.2) (R++rV (i2 r5 m l b).1)
 |0,i,N,R,l,b,hs0,hi,hN,hR=>by
  have:i=n:=by omega
  subst this
  simp only[i2,a5b,List.append_nil,Nat.add_zero]
  exact f0t s N R (ps s l) b (i:Int)
 |m+1,i,N,R,l,b,hs0,hi,hN,hR=>by
  have f1:=w7 s l b hm hs0
  have hs1:=n7 b hs0
  have f2:=w7 s (nS l b).2.1 (nS l b).2.2 hm hs1
  have hs2:=n7 (nS l b).2.2 hs1
  have hr:=f0u s N R _ _ _ (i:Int) (n:Int) _ _ _ _ _ (by omega) (by omega) (e8 R N hR) f1 f2
  have ih:=d6g s hm n hn m (i+1) (N+1) (R++rV [(r5 l b).1]) (r5 l b).2.1 (r5 l b).2.2 (a6p s l b hs0) (by omega) (by omega) (by simp[rV,hR])
  rw[show((i+1:Nat):Int)=(i:Int)+1 by omega,show N+1+m=N+(m+1) by omega,List.append_assoc,show rV [(r5 l b).1]++rV (i2 r5 m (r5 l b).2.1 (r5 l b).2.2).1=rV (i2 r5 (m+1) l b).1 by simp[rV,i2]]at ih
  exact hr.trans ih
theorem f2a(s:List UInt8)(hm:s.length<=1000000000)(m:Nat)(hn:m+1<=10000)(l:List UInt8)(b:Bool)(hs0:l<:+s):a0p s 0 ((m+1:Nat):Int) (ps s l) b=a4q s (m+1) (ps s (i2 r5 (m+1) l b).2.1) ((i2 r5 (m+1) l b).2.2) (rV (i2 r5 (m+1) l b).1):=by
 have f1:=w7 s l b hm hs0
 have hs1:=n7 b hs0
 have f2:=w7 s (nS l b).2.1 (nS l b).2.2 hm hs1
 have hs2:=n7 (nS l b).2.2 hs1
 have hr:=f0w s _ _ _ 0 ((m+1:Nat):Int) _ _ _ _ _ (by omega) f1 f2
 have ih:=d6g s hm (m+1) (by omega) m 1 1 (rV [(r5 l b).1]) (r5 l b).2.1 (r5 l b).2.2 (a6p s l b hs0) (by omega) (by omega) (by simp[rV])
 rw[show((1:Nat):Int)=0+1 from rfl,show 1+m=m+1 by omega,show rV [(r5 l b).1]++rV (i2 r5 m (r5 l b).2.1 (r5 l b).2.2).1=rV (i2 r5 (m+1) l b).1 by simp[rV,i2]]at ih
 exact hr.trans ih
theorem c8l(s:List UInt8)(hm:s.length<=1000000000)(n:Nat)(hn:n<=1000000000): ∀(m i N:Nat)(R:List (List D))(l:List UInt8)(b:Bool),l<:+s->i+m=n->N+m<=100000->R.length=N->a7k s (i:Int) (n:Int) N (ps s l) b R=a9y s (N+m) (ps s (i2 r4 m l b).2.1) ((i2 r4 m l b).2.2) (R++g9 (i2 r4 m l b).1)
 |0,i,N,R,l,b,hs0,hi,hN,hR=>by
  have:i=n:=by omega
  subst this
  simp only[i2,J4,List.append_nil,Nat.add_zero]
  exact e5k s N R (ps s l) b (i:Int)
 |m+1,i,N,R,l,b,hs0,hi,hN,hR=>by
  have f1:=a5d s l b hm hs0
  have hs1:=a1i b hs0
  have f2:=a5d s (nO l b).2.1 (nO l b).2.2 hm hs1
  have hs2:=a1i (nO l b).2.2 hs1
  have hr:=e5l s N R _ _ _ (i:Int) (n:Int) _ _ _ _ _ (by omega) (by omega) (e8 R N hR) f1 f2
  have ih:=c8l s hm n hn m (i+1) (N+1) (R++g9 [(r4 l b).1]) (r4 l b).2.1 (r4 l b).2.2 (a2i s l b hs0) (by omega) (by omega) (by simp[g9,hR])
  rw[show((i+1:Nat):Int)=(i:Int)+1 by omega,show N+1+m=N+(m+1) by omega,List.append_assoc,show g9 [(r4 l b).1]++g9 (i2 r4 m (r4 l b).2.1 (r4 l b).2.2).1=g9 (i2 r4 (m+1) l b).1 by simp[g9,i2]]at ih
  exact hr.trans ih
theorem e7c(s:List UInt8)(hm:s.length<=1000000000)(m:Nat)(hn:m+1<=10000)(l:List UInt8)(b:Bool)(hs0:l<:+s):a7l s 0 ((m+1:Nat):Int) (ps s l) b=a9y s (m+1) (ps s (i2 r4 (m+1) l b).2.1) ((i2 r4 (m+1) l b).2.2) (g9 (i2 r4 (m+1) l b).1):=by
 have f1:=a5d s l b hm hs0
 have hs1:=a1i b hs0
 have f2:=a5d s (nO l b).2.1 (nO l b).2.2 hm hs1
 have hs2:=a1i (nO l b).2.2 hs1
 have hr:=e5n s _ _ _ 0 ((m+1:Nat):Int) _ _ _ _ _ (by omega) f1 f2
 have ih:=c8l s hm (m+1) (by omega) m 1 1 (g9 [(r4 l b).1]) (r4 l b).2.1 (r4 l b).2.2 (a2i s l b hs0) (by omega) (by omega) (by simp[g9])
 rw[show((1:Nat):Int)=0+1 from rfl,show 1+m=m+1 by omega,show g9 [(r4 l b).1]++g9 (i2 r4 m (r4 l b).2.1 (r4 l b).2.2).1=g9 (i2 r4 (m+1) l b).1 by simp[g9,i2]]at ih
 exact hr.trans ih
theorem c8m(s:List UInt8)(M:Nat)(Q:List (List D))(hm:s.length<=1000000000)(n:Nat)(hn:n<=1000000000): ∀(m i N:Nat)(R:List (List D))(l:List UInt8)(b:Bool),l<:+s->i+m=n->N+m<=100000->R.length=N->a7m s M Q (i:Int) (n:Int) N (ps s l) b R=a9z s M Q (N+m) (ps s (i2 r4 m l b).2.1) ((i2 r4 m l b).2.2) (R++g9 (i2 r4 m l b).1)
 |0,i,N,R,l,b,hs0,hi,hN,hR=>by
  have:i=n:=by omega
  subst this
  simp only[i2,J4,List.append_nil,Nat.add_zero]
  exact e5o s M Q N R (ps s l) b (i:Int)
 |m+1,i,N,R,l,b,hs0,hi,hN,hR=>by
  have f1:=a5d s l b hm hs0
  have hs1:=a1i b hs0
  have f2:=a5d s (nO l b).2.1 (nO l b).2.2 hm hs1
  have hs2:=a1i (nO l b).2.2 hs1
  have hr:=e5p s M Q N R _ _ _ (i:Int) (n:Int) _ _ _ _ _ (by omega) (by omega) (e8 R N hR) f1 f2
  have ih:=c8m s M Q hm n hn m (i+1) (N+1) (R++g9 [(r4 l b).1]) (r4 l b).2.1 (r4 l b).2.2 (a2i s l b hs0) (by omega) (by omega) (by simp[g9,hR])
  rw[show((i+1:Nat):Int)=(i:Int)+1 by omega,show N+1+m=N+(m+1) by omega,List.append_assoc,show g9 [(r4 l b).1]++g9 (i2 r4 m (r4 l b).2.1 (r4 l b).2.2).1=g9 (i2 r4 (m+1) l b).1 by simp[g9,i2]]at ih
  exact hr.trans ih
theorem e7d(s:List UInt8)(M:Nat)(Q:List (List D))(hm:s.length<=1000000000)(m:Nat)(hn:m+1<=10000)(l:List UInt8)(b:Bool)(hs0:l<:+s):a7n s M Q 0 ((m+1:Nat):Int) (ps s l) b=a9z s M Q (m+1) (ps s (i2 r4 (m+1) l b).2.1) ((i2 r4 (m+1) l b).2.2) (g9 (i2 r4 (m+1) l b).1):=by
 have f1:=a5d s l b hm hs0
 have hs1:=a1i b hs0
 have f2:=a5d s (nO l b).2.1 (nO l b).2.2 hm hs1
 have hs2:=a1i (nO l b).2.2 hs1
 have hr:=e5r s M Q _ _ _ 0 ((m+1:Nat):Int) _ _ _ _ _ (by omega) f1 f2
 have ih:=c8m s M Q hm (m+1) (by omega) m 1 1 (g9 [(r4 l b).1]) (r4 l b).2.1 (r4 l b).2.2 (a2i s l b hs0) (by omega) (by omega) (by simp[g9])
 rw[show((1:Nat):Int)=0+1 from rfl,show 1+m=m+1 by omega,show g9 [(r4 l b).1]++g9 (i2 r4 m (r4 l b).2.1 (r4 l b).2.2).1=g9 (i2 r4 (m+1) l b).1 by simp[g9,i2]]at ih
 exact hr.trans ih
theorem c8n(s:List UInt8)(hm:s.length<=1000000000)(n:Nat)(hn:n<=1000000000): ∀(m i N:Nat)(R:List (List D))(l:List UInt8)(b:Bool),l<:+s->i+m=n->N+m<=100000->R.length=N->a7o s (i:Int) (n:Int) N (ps s l) b R=b0a s (N+m) (ps s (i2 i4 m l b).2.1) ((i2 i4 m l b).2.2) (R++rC (i2 i4 m l b).1)
 |0,i,N,R,l,b,hs0,hi,hN,hR=>by
  have:i=n:=by omega
  subst this
  simp only[i2,a0e,List.append_nil,Nat.add_zero]
  exact e5s s N R (ps s l) b (i:Int)
 |m+1,i,N,R,l,b,hs0,hi,hN,hR=>by
  have f1:=w7 s l b hm hs0
  have hs1:=n7 b hs0
  have f2:=w7 s (nS l b).2.1 (nS l b).2.2 hm hs1
  have hs2:=n7 (nS l b).2.2 hs1
  have f3:=w7 s (nS (nS l b).2.1 (nS l b).2.2).2.1 (nS (nS l b).2.1 (nS l b).2.2).2.2 hm hs2
  have hs3:=n7 (nS (nS l b).2.1 (nS l b).2.2).2.2 hs2
  have hr:=e5t s N R _ _ _ _ (i:Int) (n:Int) _ _ _ _ _ _ _ (by omega) (by omega) (e8 R N hR) f1 f2 f3
  have ih:=c8n s hm n hn m (i+1) (N+1) (R++rC [(i4 l b).1]) (i4 l b).2.1 (i4 l b).2.2 (N9 s l b hs0) (by omega) (by omega) (by simp[rC,hR])
  rw[show((i+1:Nat):Int)=(i:Int)+1 by omega,show N+1+m=N+(m+1) by omega,List.append_assoc,show rC [(i4 l b).1]++rC (i2 i4 m (i4 l b).2.1 (i4 l b).2.2).1=rC (i2 i4 (m+1) l b).1 by simp[rC,i2]]at ih
  exact hr.trans ih
theorem e7e(s:List UInt8)(hm:s.length<=1000000000)(m:Nat)(hn:m+1<=10000)(l:List UInt8)(b:Bool)(hs0:l<:+s):a7p s 0 ((m+1:Nat):Int) (ps s l) b=b0a s (m+1) (ps s (i2 i4 (m+1) l b).2.1) ((i2 i4 (m+1) l b).2.2) (rC (i2 i4 (m+1) l b).1):=by
 have f1:=w7 s l b hm hs0
 have hs1:=n7 b hs0
 have f2:=w7 s (nS l b).2.1 (nS l b).2.2 hm hs1
 have hs2:=n7 (nS l b).2.2 hs1
 have f3:=w7 s (nS (nS l b).2.1 (nS l b).2.2).2.1 (nS (nS l b).2.1 (nS l b).2.2).2.2 hm hs2
 have hs3:=n7 (nS (nS l b).2.1 (nS l b).2.2).2.2 hs2
 have hr:=e5v s _ _ _ _ 0 ((m+1:Nat):Int) _ _ _ _ _ _ _ (by omega) f1 f2 f3
 have ih:=c8n s hm (m+1) (by omega) m 1 1 (rC [(i4 l b).1]) (i4 l b).2.1 (i4 l b).2.2 (N9 s l b hs0) (by omega) (by omega) (by simp[rC])
 rw[show((1:Nat):Int)=0+1 from rfl,show 1+m=m+1 by omega,show rC [(i4 l b).1]++rC (i2 i4 m (i4 l b).2.1 (i4 l b).2.2).1=rC (i2 i4 (m+1) l b).1 by simp[rC,i2]]at ih
 exact hr.trans ih
theorem c8o(s:List UInt8)(M:Nat)(Q:List (List D))(hm:s.length<=1000000000)(n:Nat)(hn:n<=1000000000): ∀(m i N:Nat)(R:List (List D))(l:List UInt8)(b:Bool),l<:+s->i+m=n->N+m<=100000->R.length=N->a7q s M Q (i:Int) (n:Int) N (ps s l) b R=b0b s M Q (N+m) (ps s (i2 i4 m l b).2.1) ((i2 i4 m l b).2.2) (R++rC (i2 i4 m l b).1)
 |0,i,N,R,l,b,hs0,hi,hN,hR=>by
  have:i=n:=by omega
  subst this
  simp only[i2,a0e,List.append_nil,Nat.add_zero]
  exact e5w s M Q N R (ps s l) b (i:Int)
 |m+1,i,N,R,l,b,hs0,hi,hN,hR=>by
  have f1:=w7 s l b hm hs0
  have hs1:=n7 b hs0
  have f2:=w7 s (nS l b).2.1 (nS l b).2.2 hm hs1
  have hs2:=n7 (nS l b).2.2 hs1
  have f3:=w7 s (nS (nS l b).2.1 (nS l b).2.2).2.1 (nS (nS l b).2.1 (nS l b).2.2).2.2 hm hs2
  have hs3:=n7 (nS (nS l b).2.1 (nS l b).2.2).2.2 hs2
  have hr:=e5x s M Q N R _ _ _ _ (i:Int) (n:Int) _ _ _ _ _ _ _ (by omega) (by omega) (e8 R N hR) f1 f2 f3
  have ih:=c8o s M Q hm n hn m (i+1) (N+1) (R++rC [(i4 l b).1]) (i4 l b).2.1 (i4 l b).2.2 (N9 s l b hs0) (by omega) (by omega) (by simp[rC,hR])
  rw[show((i+1:Nat):Int)=(i:Int)+1 by omega,show N+1+m=N+(m+1) by omega,List.append_assoc,show rC [(i4 l b).1]++rC (i2 i4 m (i4 l b).2.1 (i4 l b).2.2).1=rC (i2 i4 (m+1) l b).1 by simp[rC,i2]]at ih
  exact hr.trans ih
theorem e7f(s:List UInt8)(M:Nat)(Q:List (List D))(hm:s.length<=1000000000)(m:Nat)(hn:m+1<=10000)(l:List UInt8)(b:Bool)(hs0:l<:+s):a7r s M Q 0 ((m+1:Nat):Int) (ps s l) b=b0b s M Q (m+1) (ps s (i2 i4 (m+1) l b).2.1) ((i2 i4 (m+1) l b).2.2) (rC (i2 i4 (m+1) l b).1):=by
 have f1:=w7 s l b hm hs0
 have hs1:=n7 b hs0
 have f2:=w7 s (nS l b).2.1 (nS l b).2.2 hm hs1
 have hs2:=n7 (nS l b).2.2 hs1
 have f3:=w7 s (nS (nS l b).2.1 (nS l b).2.2).2.1 (nS (nS l b).2.1 (nS l b).2.2).2.2 hm hs2
 have hs3:=n7 (nS (nS l b).2.1 (nS l b).2.2).2.2 hs2
 have hr:=e5z s M Q _ _ _ _ 0 ((m+1:Nat):Int) _ _ _ _ _ _ _ (by omega) f1 f2 f3
 have ih:=c8o s M Q hm (m+1) (by omega) m 1 1 (rC [(i4 l b).1]) (i4 l b).2.1 (i4 l b).2.2 (N9 s l b hs0) (by omega) (by omega) (by simp[rC])
 rw[show((1:Nat):Int)=0+1 from rfl,show 1+m=m+1 by omega,show rC [(i4 l b).1]++rC (i2 i4 m (i4 l b).2.1 (i4 l b).2.2).1=rC (i2 i4 (m+1) l b).1 by simp[rC,i2]]at ih
 exact hr.trans ih
theorem d6h(s:List UInt8)(hm:s.length<=1000000000)(n:Nat)(hn:n<=1000000000): ∀(m i N:Nat)(R:List (List D))(l:List UInt8)(b:Bool),l<:+s->i+m=min n 100->N+m<=100000->R.length=N->a3h s (i:Int) (n:Int) N (ps s l) b R=a3i s (N+(e9 nS m l b).1.length) (ps s (e9 nS m l b).2.1) ((e9 nS m l b).2.2) (R++rS (e9 nS m l b).1)
 |0,i,N,R,l,b,hs0,hi,hN,hR=>by
  simp only[e9,O2,List.append_nil,List.length_nil,Nat.add_zero]
  by_cases h:n<=i
  ·exact f0x s N R (ps s l) b (i:Int) (n:Int) (by omega)
  ·exact f0y s N R (ps s l) b (i:Int) (n:Int) (by omega) (by omega)
 |m+1,i,N,R,l,b,hs0,hi,hN,hR=>by
  cases b with
  |true=>
   simp only[e9,if_true,O2,List.append_nil,List.length_nil,Nat.add_zero]
   exact f0z s N R (ps s l) (i:Int) (n:Int) (by omega) (by omega)
  |false=>
   have f1:=k9 s l false hm hs0
   have hs1:=n7 false hs0
   have hr:=f1a s N R _ _ (i:Int) (n:Int) _ _ (by omega) (by omega) (by omega) (e8 R N hR) f1
   have ih:=d6h s hm n hn m (i+1) (N+1) (R++rS [(nS l false).1]) (nS l false).2.1 (nS l false).2.2 (J6 s l false hs0) (by omega) (by omega) (by simp[rS,hR])
   have e0:e9 nS (m+1) l false=((nS l false).1::(e9 nS m (nS l false).2.1 (nS l false).2.2).1,(e9 nS m (nS l false).2.1 (nS l false).2.2).2):=by rw[e9,if_neg (by simp)]
   rw[show((i+1:Nat):Int)=(i:Int)+1 by omega,show N+1+(e9 nS m (nS l false).2.1 (nS l false).2.2).1.length=N+(e9 nS (m+1) l false).1.length by rw[e0];simp;omega,List.append_assoc,show rS [(nS l false).1]++rS (e9 nS m (nS l false).2.1 (nS l false).2.2).1=rS (e9 nS (m+1) l false).1 by rw[e0];simp[rS]]at ih
   rw[e0]at ih⊢
   exact hr.trans ih
theorem d6i(s:List UInt8)(hm:s.length<=1000000000)(n:Nat)(hn:n<=1000000000): ∀(m i N:Nat)(R:List (List D))(l:List UInt8)(b:Bool),l<:+s->i+m=min n 100->N+m<=100000->R.length=N->a3j s (i:Int) (n:Int) N (ps s l) b R=a3k s (N+(e9 r5 m l b).1.length) (ps s (e9 r5 m l b).2.1) ((e9 r5 m l b).2.2) (R++rV (e9 r5 m l b).1)
 |0,i,N,R,l,b,hs0,hi,hN,hR=>by
  simp only[e9,a5b,List.append_nil,List.length_nil,Nat.add_zero]
  by_cases h:n<=i
  ·exact f1e s N R (ps s l) b (i:Int) (n:Int) (by omega)
  ·exact f1f s N R (ps s l) b (i:Int) (n:Int) (by omega) (by omega)
 |m+1,i,N,R,l,b,hs0,hi,hN,hR=>by
  cases b with
  |true=>
   simp only[e9,if_true,a5b,List.append_nil,List.length_nil,Nat.add_zero]
   exact f1g s N R (ps s l) (i:Int) (n:Int) (by omega) (by omega)
  |false=>
   have f1:=k9 s l false hm hs0
   have hs1:=n7 false hs0
   have f2:=k9 s (nS l false).2.1 (nS l false).2.2 hm hs1
   have hs2:=n7 (nS l false).2.2 hs1
   have hr:=f1h s N R _ _ _ (i:Int) (n:Int) _ _ _ _ (by omega) (by omega) (by omega) (e8 R N hR) f1 f2
   have ih:=d6i s hm n hn m (i+1) (N+1) (R++rV [(r5 l false).1]) (r5 l false).2.1 (r5 l false).2.2 (a6p s l false hs0) (by omega) (by omega) (by simp[rV,hR])
   have e0:e9 r5 (m+1) l false=((r5 l false).1::(e9 r5 m (r5 l false).2.1 (r5 l false).2.2).1,(e9 r5 m (r5 l false).2.1 (r5 l false).2.2).2):=by rw[e9,if_neg (by simp)]
   rw[show((i+1:Nat):Int)=(i:Int)+1 by omega,show N+1+(e9 r5 m (r5 l false).2.1 (r5 l false).2.2).1.length=N+(e9 r5 (m+1) l false).1.length by rw[e0];simp;omega,List.append_assoc,show rV [(r5 l false).1]++rV (e9 r5 m (r5 l false).2.1 (r5 l false).2.2).1=rV (e9 r5 (m+1) l false).1 by rw[e0];simp[rV]]at ih
   rw[e0]at ih⊢
   exact hr.trans ih
theorem c8p(s:List UInt8)(hm:s.length<=1000000000)(n:Nat)(hn:n<=1000000000): ∀(m i N:Nat)(R:List (List D))(l:List UInt8)(b:Bool),l<:+s->i+m=min n 300->N+m<=100000->R.length=N->a1l s (i:Int) (n:Int) N (ps s l) b R=a3l s (N+(o4 m l b).1.length) (ps s (o4 m l b).2.1) ((o4 m l b).2.2) (R++g9 (o4 m l b).1)
 |0,i,N,R,l,b,hs0,hi,hN,hR=>by
  simp only[o4,J4,List.append_nil,List.length_nil,Nat.add_zero]
  by_cases h:n<=i
  ·exact e6a s N R (ps s l) b (i:Int) (n:Int) (by omega)
  ·exact e6b s N R (ps s l) b (i:Int) (n:Int) (by omega) (by omega)
 |m+1,i,N,R,l,b,hs0,hi,hN,hR=>by
  have hle:=N7 hs0
  cases b with
  |true=>
   simp only[o4,if_true,J4,List.append_nil,List.length_nil,Nat.add_zero]
   exact e6c s N R (ps s l) (i:Int) (n:Int) (by omega) (by omega)
  |false=>
   have hsd:=U8 hs0
   match l,hs0,hle,hsd with
   |[],hs0,hle,hsd=>
    simp only[o4,rdI,Bool.false_eq_true,if_false,J4,List.append_nil,List.length_nil,Nat.add_zero]
    exact c8g s N R (ps s []) (i:Int) (n:Int) (by omega) (by omega) (by unfold ps;simp;omega)
   |[x],hs0,hle,hsd=>
    simp only[o4,rdI,Bool.false_eq_true,if_false,J4,List.append_nil,List.length_nil,Nat.add_zero]
    exact c8g s N R (ps s [x]) (i:Int) (n:Int) (by omega) (by omega) (by unfold ps;simp at hle⊢;omega)
   |x::y::r,hs0,hle,hsd=>
    have hr:=e6d s N R (ps s (x::y::r)) (i:Int) (n:Int) x y (by omega) (by omega) (by omega) (e8 R N hR) (by unfold ps;simp only[List.length_cons]at hle⊢;omega) (d1y s x (y::r) hs0) (d1z s x y r hs0)
    have ih:=c8p s hm n hn m (i+1) (N+1) (R++g9 [⟨(x.toNat:Int),(y.toNat:Int)⟩]) r false (((List.suffix_cons _ _).trans (List.suffix_cons _ _)).trans hs0) (by omega) (by omega) (by simp[g9,hR])
    have e0:o4 (m+1) (x::y::r) false=(⟨(x.toNat:Int),(y.toNat:Int)⟩::(o4 m r false).1,(o4 m r false).2):=by rw[o4,if_neg (by simp)];rfl
    rw[show((i+1:Nat):Int)=(i:Int)+1 by omega,show N+1+(o4 m r false).1.length=N+(o4 (m+1) (x::y::r) false).1.length by rw[e0];simp;omega,List.append_assoc,show g9 [⟨(x.toNat:Int),(y.toNat:Int)⟩]++g9 (o4 m r false).1=g9 (o4 (m+1) (x::y::r) false).1 by rw[e0];simp[g9],show ps s r=ps s (x::y::r)+2 by unfold ps;simp only[List.length_cons];omega]at ih
    rw[e0]at ih⊢
    exact hr.trans ih
theorem c8q(s:List UInt8)(M:Nat)(Q:List (List D))(hm:s.length<=1000000000)(n:Nat)(hn:n<=1000000000): ∀(m i N:Nat)(R:List (List D))(l:List UInt8)(b:Bool),l<:+s->i+m=min n 300->N+m<=100000->R.length=N->a1n s M Q (i:Int) (n:Int) N (ps s l) b R=a3m s M Q (N+(o4 m l b).1.length) (ps s (o4 m l b).2.1) ((o4 m l b).2.2) (R++g9 (o4 m l b).1)
 |0,i,N,R,l,b,hs0,hi,hN,hR=>by
  simp only[o4,J4,List.append_nil,List.length_nil,Nat.add_zero]
  by_cases h:n<=i
  ·exact e6h s M Q N R (ps s l) b (i:Int) (n:Int) (by omega)
  ·exact e6i s M Q N R (ps s l) b (i:Int) (n:Int) (by omega) (by omega)
 |m+1,i,N,R,l,b,hs0,hi,hN,hR=>by
  have hle:=N7 hs0
  cases b with
  |true=>
   simp only[o4,if_true,J4,List.append_nil,List.length_nil,Nat.add_zero]
   exact e6j s M Q N R (ps s l) (i:Int) (n:Int) (by omega) (by omega)
  |false=>
   have hsd:=U8 hs0
   match l,hs0,hle,hsd with
   |[],hs0,hle,hsd=>
    simp only[o4,rdI,Bool.false_eq_true,if_false,J4,List.append_nil,List.length_nil,Nat.add_zero]
    exact c8i s M Q N R (ps s []) (i:Int) (n:Int) (by omega) (by omega) (by unfold ps;simp;omega)
   |[x],hs0,hle,hsd=>
    simp only[o4,rdI,Bool.false_eq_true,if_false,J4,List.append_nil,List.length_nil,Nat.add_zero]
    exact c8i s M Q N R (ps s [x]) (i:Int) (n:Int) (by omega) (by omega) (by unfold ps;simp at hle⊢;omega)
   |x::y::r,hs0,hle,hsd=>
    have hr:=e6k s M Q N R (ps s (x::y::r)) (i:Int) (n:Int) x y (by omega) (by omega) (by omega) (e8 R N hR) (by unfold ps;simp only[List.length_cons]at hle⊢;omega) (d1y s x (y::r) hs0) (d1z s x y r hs0)
    have ih:=c8q s M Q hm n hn m (i+1) (N+1) (R++g9 [⟨(x.toNat:Int),(y.toNat:Int)⟩]) r false (((List.suffix_cons _ _).trans (List.suffix_cons _ _)).trans hs0) (by omega) (by omega) (by simp[g9,hR])
    have e0:o4 (m+1) (x::y::r) false=(⟨(x.toNat:Int),(y.toNat:Int)⟩::(o4 m r false).1,(o4 m r false).2):=by rw[o4,if_neg (by simp)];rfl
    rw[show((i+1:Nat):Int)=(i:Int)+1 by omega,show N+1+(o4 m r false).1.length=N+(o4 (m+1) (x::y::r) false).1.length by rw[e0];simp;omega,List.append_assoc,show g9 [⟨(x.toNat:Int),(y.toNat:Int)⟩]++g9 (o4 m r false).1=g9 (o4 (m+1) (x::y::r) false).1 by rw[e0];simp[g9],show ps s r=ps s (x::y::r)+2 by unfold ps;simp only[List.length_cons];omega]at ih
    rw[e0]at ih⊢
    exact hr.trans ih
theorem c8r(s:List UInt8)(hm:s.length<=1000000000)(n:Nat)(hn:n<=1000000000): ∀(m i N:Nat)(R:List (List D))(l:List UInt8)(b:Bool),l<:+s->i+m=min n 2100->N+m<=100000->R.length=N->a3n s (i:Int) (n:Int) N (ps s l) b R=a5g s (N+(e9 i4 m l b).1.length) (ps s (e9 i4 m l b).2.1) ((e9 i4 m l b).2.2) (R++rC (e9 i4 m l b).1)
 |0,i,N,R,l,b,hs0,hi,hN,hR=>by
  simp only[e9,a0e,List.append_nil,List.length_nil,Nat.add_zero]
  by_cases h:n<=i
  ·exact e6o s N R (ps s l) b (i:Int) (n:Int) (by omega)
  ·exact e6p s N R (ps s l) b (i:Int) (n:Int) (by omega) (by omega)
 |m+1,i,N,R,l,b,hs0,hi,hN,hR=>by
  cases b with
  |true=>
   simp only[e9,if_true,a0e,List.append_nil,List.length_nil,Nat.add_zero]
   exact e6q s N R (ps s l) (i:Int) (n:Int) (by omega) (by omega)
  |false=>
   have f1:=k9 s l false hm hs0
   have hs1:=n7 false hs0
   have f2:=k9 s (nS l false).2.1 (nS l false).2.2 hm hs1
   have hs2:=n7 (nS l false).2.2 hs1
   have f3:=k9 s (nS (nS l false).2.1 (nS l false).2.2).2.1 (nS (nS l false).2.1 (nS l false).2.2).2.2 hm hs2
   have hs3:=n7 (nS (nS l false).2.1 (nS l false).2.2).2.2 hs2
   have hr:=e6r s N R _ _ _ _ (i:Int) (n:Int) _ _ _ _ _ _ (by omega) (by omega) (by omega) (e8 R N hR) f1 f2 f3
   have ih:=c8r s hm n hn m (i+1) (N+1) (R++rC [(i4 l false).1]) (i4 l false).2.1 (i4 l false).2.2 (N9 s l false hs0) (by omega) (by omega) (by simp[rC,hR])
   have e0:e9 i4 (m+1) l false=((i4 l false).1::(e9 i4 m (i4 l false).2.1 (i4 l false).2.2).1,(e9 i4 m (i4 l false).2.1 (i4 l false).2.2).2):=by rw[e9,if_neg (by simp)]
   rw[show((i+1:Nat):Int)=(i:Int)+1 by omega,show N+1+(e9 i4 m (i4 l false).2.1 (i4 l false).2.2).1.length=N+(e9 i4 (m+1) l false).1.length by rw[e0];simp;omega,List.append_assoc,show rC [(i4 l false).1]++rC (e9 i4 m (i4 l false).2.1 (i4 l false).2.2).1=rC (e9 i4 (m+1) l false).1 by rw[e0];simp[rC]]at ih
   rw[e0]at ih⊢
   exact hr.trans ih
theorem c8s(s:List UInt8)(M:Nat)(Q:List (List D))(hm:s.length<=1000000000)(n:Nat)(hn:n<=1000000000): ∀(m i N:Nat)(R:List (List D))(l:List UInt8)(b:Bool),l<:+s->i+m=min n 2100->N+m<=100000->R.length=N->a3p s M Q (i:Int) (n:Int) N (ps s l) b R=a5h s M Q (N+(e9 i4 m l b).1.length) (ps s (e9 i4 m l b).2.1) ((e9 i4 m l b).2.2) (R++rC (e9 i4 m l b).1)
 |0,i,N,R,l,b,hs0,hi,hN,hR=>by
  simp only[e9,a0e,List.append_nil,List.length_nil,Nat.add_zero]
  by_cases h:n<=i
  ·exact e6v s M Q N R (ps s l) b (i:Int) (n:Int) (by omega)
  ·exact e6w s M Q N R (ps s l) b (i:Int) (n:Int) (by omega) (by omega)
 |m+1,i,N,R,l,b,hs0,hi,hN,hR=>by
  cases b with
  |true=>
   simp only[e9,if_true,a0e,List.append_nil,List.length_nil,Nat.add_zero]
   exact e6x s M Q N R (ps s l) (i:Int) (n:Int) (by omega) (by omega)
  |false=>
   have f1:=k9 s l false hm hs0
   have hs1:=n7 false hs0
   have f2:=k9 s (nS l false).2.1 (nS l false).2.2 hm hs1
   have hs2:=n7 (nS l false).2.2 hs1
   have f3:=k9 s (nS (nS l false).2.1 (nS l false).2.2).2.1 (nS (nS l false).2.1 (nS l false).2.2).2.2 hm hs2
   have hs3:=n7 (nS (nS l false).2.1 (nS l false).2.2).2.2 hs2
   have hr:=e6y s M Q N R _ _ _ _ (i:Int) (n:Int) _ _ _ _ _ _ (by omega) (by omega) (by omega) (e8 R N hR) f1 f2 f3
   have ih:=c8s s M Q hm n hn m (i+1) (N+1) (R++rC [(i4 l false).1]) (i4 l false).2.1 (i4 l false).2.2 (N9 s l false hs0) (by omega) (by omega) (by simp[rC,hR])
   have e0:e9 i4 (m+1) l false=((i4 l false).1::(e9 i4 m (i4 l false).2.1 (i4 l false).2.2).1,(e9 i4 m (i4 l false).2.1 (i4 l false).2.2).2):=by rw[e9,if_neg (by simp)]
   rw[show((i+1:Nat):Int)=(i:Int)+1 by omega,show N+1+(e9 i4 m (i4 l false).2.1 (i4 l false).2.2).1.length=N+(e9 i4 (m+1) l false).1.length by rw[e0];simp;omega,List.append_assoc,show rC [(i4 l false).1]++rC (e9 i4 m (i4 l false).2.1 (i4 l false).2.2).1=rC (e9 i4 (m+1) l false).1 by rw[e0];simp[rC]]at ih
   rw[e0]at ih⊢
   exact hr.trans ih
theorem e1k(s:List UInt8)(hm:s.length<=1000000000)(n:Nat)(hn:n<=1000000000): ∀(m i N:Nat)(R:List (List D))(l:List UInt8)(b:Bool),l<:+s->i+m=n->N+m<=100000->R.length=N->c4h s (i:Int) (n:Int) N (ps s l) b R=e0b s (N+m) (ps s (i2 nS m l b).2.1) ((i2 nS m l b).2.2) (R++rS (i2 nS m l b).1)
 |0,i,N,R,l,b,hs0,hi,hN,hR=>by
  have:i=n:=by omega
  subst this
  simp only[i2,O2,List.append_nil,Nat.add_zero]
  exact f6k s N R (ps s l) b (i:Int)
 |m+1,i,N,R,l,b,hs0,hi,hN,hR=>by
  have f1:=w7 s l b hm hs0
  have hs1:=n7 b hs0
  have hr:=f6l s N R _ _ (i:Int) (n:Int) _ _ _ (by omega) (by omega) (e8 R N hR) f1
  have ih:=e1k s hm n hn m (i+1) (N+1) (R++rS [(nS l b).1]) (nS l b).2.1 (nS l b).2.2 (J6 s l b hs0) (by omega) (by omega) (by simp[rS,hR])
  rw[show((i+1:Nat):Int)=(i:Int)+1 by omega,show N+1+m=N+(m+1) by omega,List.append_assoc,show rS [(nS l b).1]++rS (i2 nS m (nS l b).2.1 (nS l b).2.2).1=rS (i2 nS (m+1) l b).1 by simp[rS,i2]]at ih
  exact hr.trans ih
theorem e1l(s:List UInt8)(d1 d2 d3 d4 d5 d6 d7 d8:D)(k1 k2:Bool)(hm:s.length<=1000000000)(n:Nat)(hn:n<=1000000000): ∀(m i N:Nat)(R:List (List D))(l:List UInt8)(b:Bool),l<:+s->i+m=min n 50->N+m<=100000->R.length=N->V2 s d1 d2 d3 d4 d5 d6 d7 d8 k1 k2 (i:Int) (n:Int) N (ps s l) b R=M9 s d1 d2 d3 d4 d5 d6 d7 d8 k1 k2 (N+(e9 nS m l b).1.length) (ps s (e9 nS m l b).2.1) ((e9 nS m l b).2.2) (R++rS (e9 nS m l b).1)
 |0,i,N,R,l,b,hs0,hi,hN,hR=>by
  simp only[e9,O2,List.append_nil,List.length_nil,Nat.add_zero]
  by_cases h:n<=i
  ·exact f6m s d1 d2 d3 d4 d5 d6 d7 d8 k1 k2 N R (ps s l) b (i:Int) (n:Int) (by omega)
  ·exact f6n s d1 d2 d3 d4 d5 d6 d7 d8 k1 k2 N R (ps s l) b (i:Int) (n:Int) (by omega) (by omega)
 |m+1,i,N,R,l,b,hs0,hi,hN,hR=>by
  cases b with
  |true=>
   simp only[e9,if_true,O2,List.append_nil,List.length_nil,Nat.add_zero]
   exact f6o s d1 d2 d3 d4 d5 d6 d7 d8 k1 k2 N R (ps s l) (i:Int) (n:Int) (by omega) (by omega)
  |false=>
   have f1:=k9 s l false hm hs0
   have hs1:=n7 false hs0
   have hr:=f6p s d1 d2 d3 d4 d5 d6 d7 d8 k1 k2 N R _ _ (i:Int) (n:Int) _ _ (by omega) (by omega) (by omega) (e8 R N hR) f1
   have ih:=e1l s d1 d2 d3 d4 d5 d6 d7 d8 k1 k2 hm n hn m (i+1) (N+1) (R++rS [(nS l false).1]) (nS l false).2.1 (nS l false).2.2 (J6 s l false hs0) (by omega) (by omega) (by simp[rS,hR])
   have e0:e9 nS (m+1) l false=((nS l false).1::(e9 nS m (nS l false).2.1 (nS l false).2.2).1,(e9 nS m (nS l false).2.1 (nS l false).2.2).2):=by rw[e9,if_neg (by simp)]
   rw[show((i+1:Nat):Int)=(i:Int)+1 by omega,show N+1+(e9 nS m (nS l false).2.1 (nS l false).2.2).1.length=N+(e9 nS (m+1) l false).1.length by rw[e0];simp;omega,List.append_assoc,show rS [(nS l false).1]++rS (e9 nS m (nS l false).2.1 (nS l false).2.2).1=rS (e9 nS (m+1) l false).1 by rw[e0];simp[rS]]at ih
   rw[e0]at ih⊢
   exact hr.trans ih
theorem d6j(s:List UInt8)(d1 d2 d3 d4 d5 d6 d7 d8:D)(k1 k2:Bool)(hm:s.length<=1000000000)(n:Nat)(hn:n<=1000000000): ∀(m i N:Nat)(R:List (List D))(l:List UInt8)(b:Bool),l<:+s->i+m=min n 50->N+m<=100000->R.length=N->a0s s d1 d2 d3 d4 d5 d6 d7 d8 k1 k2 (i:Int) (n:Int) N (ps s l) b R=W0 s d1 d2 d3 d4 d5 d6 d7 d8 k1 k2 (N+(e9 nS m l b).1.length) (ps s (e9 nS m l b).2.1) ((e9 nS m l b).2.2) (R++rS (e9 nS m l b).1)
 |0,i,N,R,l,b,hs0,hi,hN,hR=>by
  simp only[e9,O2,List.append_nil,List.length_nil,Nat.add_zero]
  by_cases h:n<=i
  ·exact f1l s d1 d2 d3 d4 d5 d6 d7 d8 k1 k2 N R (ps s l) b (i:Int) (n:Int) (by omega)
  ·exact f1m s d1 d2 d3 d4 d5 d6 d7 d8 k1 k2 N R (ps s l) b (i:Int) (n:Int) (by omega) (by omega)
 |m+1,i,N,R,l,b,hs0,hi,hN,hR=>by
  cases b with
  |true=>
   simp only[e9,if_true,O2,List.append_nil,List.length_nil,Nat.add_zero]
   exact f1n s d1 d2 d3 d4 d5 d6 d7 d8 k1 k2 N R (ps s l) (i:Int) (n:Int) (by omega) (by omega)
  |false=>
   have f1:=k9 s l false hm hs0
   have hs1:=n7 false hs0
   have hr:=f1o s d1 d2 d3 d4 d5 d6 d7 d8 k1 k2 N R _ _ (i:Int) (n:Int) _ _ (by omega) (by omega) (by omega) (e8 R N hR) f1
   have ih:=d6j s d1 d2 d3 d4 d5 d6 d7 d8 k1 k2 hm n hn m (i+1) (N+1) (R++rS [(nS l false).1]) (nS l false).2.1 (nS l false).2.2 (J6 s l false hs0) (by omega) (by omega) (by simp[rS,hR])
   have e0:e9 nS (m+1) l false=((nS l false).1::(e9 nS m (nS l false).2.1 (nS l false).2.2).1,(e9 nS m (nS l false).2.1 (nS l false).2.2).2):=by rw[e9,if_neg (by simp)]
   rw[show((i+1:Nat):Int)=(i:Int)+1 by omega,show N+1+(e9 nS m (nS l false).2.1 (nS l false).2.2).1.length=N+(e9 nS (m+1) l false).1.length by rw[e0];simp;omega,List.append_assoc,show rS [(nS l false).1]++rS (e9 nS m (nS l false).2.1 (nS l false).2.2).1=rS (e9 nS (m+1) l false).1 by rw[e0];simp[rS]]at ih
   rw[e0]at ih⊢
   exact hr.trans ih
theorem d6k(s:List UInt8)(d1 d2 d3 d4 d5 d6 d7 d8:D)(k1 k2:Bool)(M:Nat)(Q:List (List D))(hm:s.length<=1000000000)(n:Nat)(hn:n<=1000000000): ∀(m i N:Nat)(R:List (List D))(l:List UInt8)(b:Bool),l<:+s->i+m=min n 50->N+m<=100000->R.length=N->a0u s d1 d2 d3 d4 d5 d6 d7 d8 k1 k2 M Q (i:Int) (n:Int) N (ps s l) b R=W1 s d1 d2 d3 d4 d5 d6 d7 d8 k1 k2 M Q (N+(e9 nS m l b).1.length) (ps s (e9 nS m l b).2.1) ((e9 nS m l b).2.2) (R++rS (e9 nS m l b).1)
 |0,i,N,R,l,b,hs0,hi,hN,hR=>by
  simp only[e9,O2,List.append_nil,List.length_nil,Nat.add_zero]
  by_cases h:n<=i
  ·exact f1s s d1 d2 d3 d4 d5 d6 d7 d8 k1 k2 M Q N R (ps s l) b (i:Int) (n:Int) (by omega)
  ·exact f1t s d1 d2 d3 d4 d5 d6 d7 d8 k1 k2 M Q N R (ps s l) b (i:Int) (n:Int) (by omega) (by omega)
 |m+1,i,N,R,l,b,hs0,hi,hN,hR=>by
  cases b with
  |true=>
   simp only[e9,if_true,O2,List.append_nil,List.length_nil,Nat.add_zero]
   exact f1u s d1 d2 d3 d4 d5 d6 d7 d8 k1 k2 M Q N R (ps s l) (i:Int) (n:Int) (by omega) (by omega)
  |false=>
   have f1:=k9 s l false hm hs0
   have hs1:=n7 false hs0
   have hr:=f1v s d1 d2 d3 d4 d5 d6 d7 d8 k1 k2 M Q N R _ _ (i:Int) (n:Int) _ _ (by omega) (by omega) (by omega) (e8 R N hR) f1
   have ih:=d6k s d1 d2 d3 d4 d5 d6 d7 d8 k1 k2 M Q hm n hn m (i+1) (N+1) (R++rS [(nS l false).1]) (nS l false).2.1 (nS l false).2.2 (J6 s l false hs0) (by omega) (by omega) (by simp[rS,hR])
   have e0:e9 nS (m+1) l false=((nS l false).1::(e9 nS m (nS l false).2.1 (nS l false).2.2).1,(e9 nS m (nS l false).2.1 (nS l false).2.2).2):=by rw[e9,if_neg (by simp)]
   rw[show((i+1:Nat):Int)=(i:Int)+1 by omega,show N+1+(e9 nS m (nS l false).2.1 (nS l false).2.2).1.length=N+(e9 nS (m+1) l false).1.length by rw[e0];simp;omega,List.append_assoc,show rS [(nS l false).1]++rS (e9 nS m (nS l false).2.1 (nS l false).2.2).1=rS (e9 nS (m+1) l false).1 by rw[e0];simp[rS]]at ih
   rw[e0]at ih⊢
   exact hr.trans ih
end
end Go.Vsi
