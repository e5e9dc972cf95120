/- What the functions of the program, of the reference and of the law do (a part of it). -/
import Derived.Test.YtbjkeppbogdgcaaGreatZY37
import Derived.Test.YtbjkeppbogdgcaaGreatZY45
namespace Go.Vsi
open Go.Proofs
noncomputable section
set_option maxRecDepth 100000
set_option maxHeartbeats 4000000
set_option linter.unusedSimpArgs false
set_option linter.unusedVariables false
attribute [local go_sem ↓] v6
theorem b1f: ∀(n:Nat)(l:List UInt8)(b:Bool),∀x∈(e9 nS n l b).1,x.length<=20000
 |0,l,b,x,h=>by simp[e9]at h
 |n+1,l,b,x,h=>by
  rw[e9]at h
  split at h
  ·simp at h
  ·simp only[List.mem_cons]at h
   rcases h with h|h
   ·subst h;exact I7 (s:=l) b
   ·exact b1f n _ _ x h
theorem b4t: ∀(n:Nat)(l:List UInt8)(b:Bool),∀x∈(e9 r5 n l b).1,x.Name.length<=20000∧x.Val.length<=20000
 |0,l,b,x,h=>by simp[e9]at h
 |n+1,l,b,x,h=>by
  rw[e9]at h
  split at h
  ·simp at h
  ·simp only[List.mem_cons]at h
   rcases h with h|h
   ·subst h;exact⟨I7 (s:=l) b,I7 (s:=l) _⟩
   ·exact b4t n _ _ x h
theorem b4u: ∀(n:Nat)(l:List UInt8)(b:Bool),∀x∈(e9 i4 n l b).1,x.Name.length<=20000∧x.Key.length<=20000∧x.Val.length<=20000
 |0,l,b,x,h=>by simp[e9]at h
 |n+1,l,b,x,h=>by
  rw[e9]at h
  split at h
  ·simp at h
  ·simp only[List.mem_cons]at h
   rcases h with h|h
   ·subst h;exact⟨I7 (s:=l) b,I7 (s:=l) _,I7 (s:=l) _⟩
   ·exact b4u n _ _ x h
theorem f2q(s:List UInt8)(hm:s.length<=1000000000)(n:Nat)(hn:n<=1000000000)(l:List UInt8)(b:Bool)(hs0:l<:+s):((e9 nS (min n 100) l b).1=[]->a0q s 0 (n:Int) (ps s l) b=a5x s (ps s (e9 nS (min n 100) l b).2.1) ((e9 nS (min n 100) l b).2.2))∧((e9 nS (min n 100) l b).1≠[]->a0q s 0 (n:Int) (ps s l) b=a3i s ((e9 nS (min n 100) l b).1.length) (ps s (e9 nS (min n 100) l b).2.1) ((e9 nS (min n 100) l b).2.2) (rS (e9 nS (min n 100) l b).1)):=by
 cases hk:min n 100 with
 |zero=>
  refine⟨fun _=>?_,fun h=>absurd rfl h⟩
  exact f1b s (ps s l) b 0 (n:Int) (by omega)
 |succ m=>
  cases b with
  |true=>
   have e:e9 nS (m+1) l true=([],l,true):=rfl
   rw[e]
   refine⟨fun _=>?_,fun h=>absurd rfl h⟩
   exact f1c s (ps s l) 0 (n:Int) (by omega) (by omega)
  |false=>
   have e:e9 nS (m+1) l false=((nS l false).1::(e9 nS m (nS l false).2.1 (nS l false).2.2).1,(e9 nS m (nS l false).2.1 (nS l false).2.2).2):=by rw[e9,if_neg (by simp)]
   rw[e]
   refine⟨fun h=>(by cases h),fun _=>?_⟩
   have f1:=k9 s l false hm hs0
   have hs1:=n7 false hs0
   have hr:=f1d s _ _ 0 (n:Int) _ _ (by omega) (by omega) f1
   have ih:=d6h s hm n hn m 1 1 (rS [(nS l false).1]) (nS l false).2.1 (nS l false).2.2 (J6 s l false hs0) (by omega) (by omega) (by simp[rS])
   rw[show((1:Nat):Int)=0+1 from rfl,Nat.add_comm 1 (e9 nS m (nS l false).2.1 (nS l false).2.2).1.length,show rS [(nS l false).1]++rS (e9 nS m (nS l false).2.1 (nS l false).2.2).1=rS ((nS l false).1::(e9 nS m (nS l false).2.1 (nS l false).2.2).1) by simp[rS]]at ih
   exact hr.trans ih
theorem f2r(s:List UInt8)(hm:s.length<=1000000000)(n:Nat)(hn:n<=1000000000)(l:List UInt8)(b:Bool)(hs0:l<:+s):((e9 r5 (min n 100) l b).1=[]->a0r s 0 (n:Int) (ps s l) b=a5y s (ps s (e9 r5 (min n 100) l b).2.1) ((e9 r5 (min n 100) l b).2.2))∧((e9 r5 (min n 100) l b).1≠[]->a0r s 0 (n:Int) (ps s l) b=a3k s ((e9 r5 (min n 100) l b).1.length) (ps s (e9 r5 (min n 100) l b).2.1) ((e9 r5 (min n 100) l b).2.2) (rV (e9 r5 (min n 100) l b).1)):=by
 cases hk:min n 100 with
 |zero=>
  refine⟨fun _=>?_,fun h=>absurd rfl h⟩
  exact f1i s (ps s l) b 0 (n:Int) (by omega)
 |succ m=>
  cases b with
  |true=>
   have e:e9 r5 (m+1) l true=([],l,true):=rfl
   rw[e]
   refine⟨fun _=>?_,fun h=>absurd rfl h⟩
   exact f1j s (ps s l) 0 (n:Int) (by omega) (by omega)
  |false=>
   have e:e9 r5 (m+1) l false=((r5 l false).1::(e9 r5 m (r5 l false).2.1 (r5 l false).2.2).1,(e9 r5 m (r5 l false).2.1 (r5 l false).2.2).2):=by rw[e9,if_neg (by simp)]
   rw[e]
   refine⟨fun h=>(by cases h),fun _=>?_⟩
   have f1:=k9 s l false hm hs0
   have hs1:=n7 false hs0
   have f2:=k9 s (nS l false).2.1 (nS l false).2.2 hm hs1
   have hs2:=n7 (nS l false).2.2 hs1
   have hr:=f1k s _ _ _ 0 (n:Int) _ _ _ _ (by omega) (by omega) f1 f2
   have ih:=d6i s hm n hn m 1 1 (rV [(r5 l false).1]) (r5 l false).2.1 (r5 l false).2.2 (a6p s l false hs0) (by omega) (by omega) (by simp[rV])
   rw[show((1:Nat):Int)=0+1 from rfl,Nat.add_comm 1 (e9 r5 m (r5 l false).2.1 (r5 l false).2.2).1.length,show rV [(r5 l false).1]++rV (e9 r5 m (r5 l false).2.1 (r5 l false).2.2).1=rV ((r5 l false).1::(e9 r5 m (r5 l false).2.1 (r5 l false).2.2).1) by simp[rV]]at ih
   exact hr.trans ih
theorem e7p(s:List UInt8)(hm:s.length<=1000000000)(n:Nat)(hn:n<=1000000000)(l:List UInt8)(b:Bool)(hs0:l<:+s):((o4 (min n 300) l b).1=[]->a1m s 0 (n:Int) (ps s l) b=a7s s (ps s (o4 (min n 300) l b).2.1) ((o4 (min n 300) l b).2.2))∧((o4 (min n 300) l b).1≠[]->a1m s 0 (n:Int) (ps s l) b=a3l s ((o4 (min n 300) l b).1.length) (ps s (o4 (min n 300) l b).2.1) ((o4 (min n 300) l b).2.2) (g9 (o4 (min n 300) l b).1)):=by
 cases hk:min n 300 with
 |zero=>
  refine⟨fun _=>?_,fun h=>absurd rfl h⟩
  exact e6e s (ps s l) b 0 (n:Int) (by omega)
 |succ m=>
  cases b with
  |true=>
   have e:o4 (m+1) l true=([],l,true):=rfl
   rw[e]
   refine⟨fun _=>?_,fun h=>absurd rfl h⟩
   exact e6f s (ps s l) 0 (n:Int) (by omega) (by omega)
  |false=>
   have hle:=N7 hs0
   match l,hs0,hle with
   |[],hs0,hle=>
    refine⟨fun _=>?_,fun h=>absurd rfl h⟩
    exact c8h s (ps s []) 0 (n:Int) (by omega) (by omega) (by unfold ps;simp;omega)
   |[x],hs0,hle=>
    refine⟨fun _=>?_,fun h=>absurd rfl h⟩
    exact c8h s (ps s [x]) 0 (n:Int) (by omega) (by omega) (by unfold ps;simp at hle⊢;omega)
   |x::y::r,hs0,hle=>
    have e:o4 (m+1) (x::y::r) false=(⟨(x.toNat:Int),(y.toNat:Int)⟩::(o4 m r false).1,(o4 m r false).2):=by rw[o4,if_neg (by simp)];rfl
    rw[e]
    refine⟨fun h=>(by cases h),fun _=>?_⟩
    have hr:=e6g s (ps s (x::y::r)) 0 (n:Int) x y (by omega) (by omega) (by unfold ps;simp only[List.length_cons]at hle⊢;omega) (d1y s x (y::r) hs0) (d1z s x y r hs0)
    have ih:=c8p s hm n hn m 1 1 (g9 [⟨(x.toNat:Int),(y.toNat:Int)⟩]) r false (((List.suffix_cons _ _).trans (List.suffix_cons _ _)).trans hs0) (by omega) (by omega) (by simp[g9])
    rw[show((1:Nat):Int)=0+1 from rfl,Nat.add_comm 1 (o4 m r false).1.length,show g9 [⟨(x.toNat:Int),(y.toNat:Int)⟩]++g9 (o4 m r false).1=g9 (⟨(x.toNat:Int),(y.toNat:Int)⟩::(o4 m r false).1) by simp[g9],show ps s r=ps s (x::y::r)+2 by unfold ps;simp only[List.length_cons];omega]at ih
    exact hr.trans ih
theorem e7q(s:List UInt8)(M:Nat)(Q:List (List D))(hm:s.length<=1000000000)(n:Nat)(hn:n<=1000000000)(l:List UInt8)(b:Bool)(hs0:l<:+s):((o4 (min n 300) l b).1=[]->a1o s M Q 0 (n:Int) (ps s l) b=a7t s M Q (ps s (o4 (min n 300) l b).2.1) ((o4 (min n 300) l b).2.2))∧((o4 (min n 300) l b).1≠[]->a1o s M Q 0 (n:Int) (ps s l) b=a3m s M Q ((o4 (min n 300) l b).1.length) (ps s (o4 (min n 300) l b).2.1) ((o4 (min n 300) l b).2.2) (g9 (o4 (min n 300) l b).1)):=by
 cases hk:min n 300 with
 |zero=>
  refine⟨fun _=>?_,fun h=>absurd rfl h⟩
  exact e6l s M Q (ps s l) b 0 (n:Int) (by omega)
 |succ m=>
  cases b with
  |true=>
   have e:o4 (m+1) l true=([],l,true):=rfl
   rw[e]
   refine⟨fun _=>?_,fun h=>absurd rfl h⟩
   exact e6m s M Q (ps s l) 0 (n:Int) (by omega) (by omega)
  |false=>
   have hle:=N7 hs0
   match l,hs0,hle with
   |[],hs0,hle=>
    refine⟨fun _=>?_,fun h=>absurd rfl h⟩
    exact c8j s M Q (ps s []) 0 (n:Int) (by omega) (by omega) (by unfold ps;simp;omega)
   |[x],hs0,hle=>
    refine⟨fun _=>?_,fun h=>absurd rfl h⟩
    exact c8j s M Q (ps s [x]) 0 (n:Int) (by omega) (by omega) (by unfold ps;simp at hle⊢;omega)
   |x::y::r,hs0,hle=>
    have e:o4 (m+1) (x::y::r) false=(⟨(x.toNat:Int),(y.toNat:Int)⟩::(o4 m r false).1,(o4 m r false).2):=by rw[o4,if_neg (by simp)];rfl
    rw[e]
    refine⟨fun h=>(by cases h),fun _=>?_⟩
    have hr:=e6n s M Q (ps s (x::y::r)) 0 (n:Int) x y (by omega) (by omega) (by unfold ps;simp only[List.length_cons]at hle⊢;omega) (d1y s x (y::r) hs0) (d1z s x y r hs0)
    have ih:=c8q s M Q hm n hn m 1 1 (g9 [⟨(x.toNat:Int),(y.toNat:Int)⟩]) r false (((List.suffix_cons _ _).trans (List.suffix_cons _ _)).trans hs0) (by omega) (by omega) (by simp[g9])
    rw[show((1:Nat):Int)=0+1 from rfl,Nat.add_comm 1 (o4 m r false).1.length,show g9 [⟨(x.toNat:Int),(y.toNat:Int)⟩]++g9 (o4 m r false).1=g9 (⟨(x.toNat:Int),(y.toNat:Int)⟩::(o4 m r false).1) by simp[g9],show ps s r=ps s (x::y::r)+2 by unfold ps;simp only[List.length_cons];omega]at ih
    exact hr.trans ih
theorem e7r(s:List UInt8)(hm:s.length<=1000000000)(n:Nat)(hn:n<=1000000000)(l:List UInt8)(b:Bool)(hs0:l<:+s):((e9 i4 (min n 2100) l b).1=[]->a3o s 0 (n:Int) (ps s l) b=b0c s (ps s (e9 i4 (min n 2100) l b).2.1) ((e9 i4 (min n 2100) l b).2.2))∧((e9 i4 (min n 2100) l b).1≠[]->a3o s 0 (n:Int) (ps s l) b=a5g s ((e9 i4 (min n 2100) l b).1.length) (ps s (e9 i4 (min n 2100) l b).2.1) ((e9 i4 (min n 2100) l b).2.2) (rC (e9 i4 (min n 2100) l b).1)):=by
 cases hk:min n 2100 with
 |zero=>
  refine⟨fun _=>?_,fun h=>absurd rfl h⟩
  exact e6s s (ps s l) b 0 (n:Int) (by omega)
 |succ m=>
  cases b with
  |true=>
   have e:e9 i4 (m+1) l true=([],l,true):=rfl
   rw[e]
   refine⟨fun _=>?_,fun h=>absurd rfl h⟩
   exact e6t s (ps s l) 0 (n:Int) (by omega) (by omega)
  |false=>
   have e:e9 i4 (m+1) l false=((i4 l false).1::(e9 i4 m (i4 l false).2.1 (i4 l false).2.2).1,(e9 i4 m (i4 l false).2.1 (i4 l false).2.2).2):=by rw[e9,if_neg (by simp)]
   rw[e]
   refine⟨fun h=>(by cases h),fun _=>?_⟩
   have f1:=k9 s l false hm hs0
   have hs1:=n7 false hs0
   have f2:=k9 s (nS l false).2.1 (nS l false).2.2 hm hs1
   have hs2:=n7 (nS l false).2.2 hs1
   have f3:=k9 s (nS (nS l false).2.1 (nS l false).2.2).2.1 (nS (nS l false).2.1 (nS l false).2.2).2.2 hm hs2
   have hs3:=n7 (nS (nS l false).2.1 (nS l false).2.2).2.2 hs2
   have hr:=e6u s _ _ _ _ 0 (n:Int) _ _ _ _ _ _ (by omega) (by omega) f1 f2 f3
   have ih:=c8r s hm n hn m 1 1 (rC [(i4 l false).1]) (i4 l false).2.1 (i4 l false).2.2 (N9 s l false hs0) (by omega) (by omega) (by simp[rC])
   rw[show((1:Nat):Int)=0+1 from rfl,Nat.add_comm 1 (e9 i4 m (i4 l false).2.1 (i4 l false).2.2).1.length,show rC [(i4 l false).1]++rC (e9 i4 m (i4 l false).2.1 (i4 l false).2.2).1=rC ((i4 l false).1::(e9 i4 m (i4 l false).2.1 (i4 l false).2.2).1) by simp[rC]]at ih
   exact hr.trans ih
theorem e7s(s:List UInt8)(M:Nat)(Q:List (List D))(hm:s.length<=1000000000)(n:Nat)(hn:n<=1000000000)(l:List UInt8)(b:Bool)(hs0:l<:+s):((e9 i4 (min n 2100) l b).1=[]->a3q s M Q 0 (n:Int) (ps s l) b=b0d s M Q (ps s (e9 i4 (min n 2100) l b).2.1) ((e9 i4 (min n 2100) l b).2.2))∧((e9 i4 (min n 2100) l b).1≠[]->a3q s M Q 0 (n:Int) (ps s l) b=a5h s M Q ((e9 i4 (min n 2100) l b).1.length) (ps s (e9 i4 (min n 2100) l b).2.1) ((e9 i4 (min n 2100) l b).2.2) (rC (e9 i4 (min n 2100) l b).1)):=by
 cases hk:min n 2100 with
 |zero=>
  refine⟨fun _=>?_,fun h=>absurd rfl h⟩
  exact e6z s M Q (ps s l) b 0 (n:Int) (by omega)
 |succ m=>
  cases b with
  |true=>
   have e:e9 i4 (m+1) l true=([],l,true):=rfl
   rw[e]
   refine⟨fun _=>?_,fun h=>absurd rfl h⟩
   exact e7a s M Q (ps s l) 0 (n:Int) (by omega) (by omega)
  |false=>
   have e:e9 i4 (m+1) l false=((i4 l false).1::(e9 i4 m (i4 l false).2.1 (i4 l false).2.2).1,(e9 i4 m (i4 l false).2.1 (i4 l false).2.2).2):=by rw[e9,if_neg (by simp)]
   rw[e]
   refine⟨fun h=>(by cases h),fun _=>?_⟩
   have f1:=k9 s l false hm hs0
   have hs1:=n7 false hs0
   have f2:=k9 s (nS l false).2.1 (nS l false).2.2 hm hs1
   have hs2:=n7 (nS l false).2.2 hs1
   have f3:=k9 s (nS (nS l false).2.1 (nS l false).2.2).2.1 (nS (nS l false).2.1 (nS l false).2.2).2.2 hm hs2
   have hs3:=n7 (nS (nS l false).2.1 (nS l false).2.2).2.2 hs2
   have hr:=e7b s M Q _ _ _ _ 0 (n:Int) _ _ _ _ _ _ (by omega) (by omega) f1 f2 f3
   have ih:=c8s s M Q hm n hn m 1 1 (rC [(i4 l false).1]) (i4 l false).2.1 (i4 l false).2.2 (N9 s l false hs0) (by omega) (by omega) (by simp[rC])
   rw[show((1:Nat):Int)=0+1 from rfl,Nat.add_comm 1 (e9 i4 m (i4 l false).2.1 (i4 l false).2.2).1.length,show rC [(i4 l false).1]++rC (e9 i4 m (i4 l false).2.1 (i4 l false).2.2).1=rC ((i4 l false).1::(e9 i4 m (i4 l false).2.1 (i4 l false).2.2).1) by simp[rC]]at ih
   exact hr.trans ih
theorem f6v(s:List UInt8)(d1 d2 d3 d4 d5 d6 d7 d8:D)(k1 k2:Bool)(hm:s.length<=1000000000)(n:Nat)(hn:n<=1000000000)(l:List UInt8)(b:Bool)(hs0:l<:+s):((e9 nS (min n 50) l b).1=[]->G6 s d1 d2 d3 d4 d5 d6 d7 d8 k1 k2 0 (n:Int) (ps s l) b=O8 s d1 d2 d3 d4 d5 d6 d7 d8 k1 k2 (ps s (e9 nS (min n 50) l b).2.1) ((e9 nS (min n 50) l b).2.2))∧((e9 nS (min n 50) l b).1≠[]->G6 s d1 d2 d3 d4 d5 d6 d7 d8 k1 k2 0 (n:Int) (ps s l) b=M9 s d1 d2 d3 d4 d5 d6 d7 d8 k1 k2 ((e9 nS (min n 50) l b).1.length) (ps s (e9 nS (min n 50) l b).2.1) ((e9 nS (min n 50) l b).2.2) (rS (e9 nS (min n 50) l b).1)):=by
 cases hk:min n 50 with
 |zero=>
  refine⟨fun _=>?_,fun h=>absurd rfl h⟩
  exact f6q s d1 d2 d3 d4 d5 d6 d7 d8 k1 k2 (ps s l) b 0 (n:Int) (by omega)
 |succ m=>
  cases b with
  |true=>
   have e:e9 nS (m+1) l true=([],l,true):=rfl
   rw[e]
   refine⟨fun _=>?_,fun h=>absurd rfl h⟩
   exact f6r s d1 d2 d3 d4 d5 d6 d7 d8 k1 k2 (ps s l) 0 (n:Int) (by omega) (by omega)
  |false=>
   have e:e9 nS (m+1) l false=((nS l false).1::(e9 nS m (nS l false).2.1 (nS l false).2.2).1,(e9 nS m (nS l false).2.1 (nS l false).2.2).2):=by rw[e9,if_neg (by simp)]
   rw[e]
   refine⟨fun h=>(by cases h),fun _=>?_⟩
   have f1:=k9 s l false hm hs0
   have hs1:=n7 false hs0
   have hr:=f6s s d1 d2 d3 d4 d5 d6 d7 d8 k1 k2 _ _ 0 (n:Int) _ _ (by omega) (by omega) f1
   have ih:=e1l s d1 d2 d3 d4 d5 d6 d7 d8 k1 k2 hm n hn m 1 1 (rS [(nS l false).1]) (nS l false).2.1 (nS l false).2.2 (J6 s l false hs0) (by omega) (by omega) (by simp[rS])
   rw[show((1:Nat):Int)=0+1 from rfl,Nat.add_comm 1 (e9 nS m (nS l false).2.1 (nS l false).2.2).1.length,show rS [(nS l false).1]++rS (e9 nS m (nS l false).2.1 (nS l false).2.2).1=rS ((nS l false).1::(e9 nS m (nS l false).2.1 (nS l false).2.2).1) by simp[rS]]at ih
   exact hr.trans ih
theorem f2s(s:List UInt8)(d1 d2 d3 d4 d5 d6 d7 d8:D)(k1 k2:Bool)(hm:s.length<=1000000000)(n:Nat)(hn:n<=1000000000)(l:List UInt8)(b:Bool)(hs0:l<:+s):((e9 nS (min n 50) l b).1=[]->N0 s d1 d2 d3 d4 d5 d6 d7 d8 k1 k2 0 (n:Int) (ps s l) b=a0t s d1 d2 d3 d4 d5 d6 d7 d8 k1 k2 (ps s (e9 nS (min n 50) l b).2.1) ((e9 nS (min n 50) l b).2.2))∧((e9 nS (min n 50) l b).1≠[]->N0 s d1 d2 d3 d4 d5 d6 d7 d8 k1 k2 0 (n:Int) (ps s l) b=W0 s d1 d2 d3 d4 d5 d6 d7 d8 k1 k2 ((e9 nS (min n 50) l b).1.length) (ps s (e9 nS (min n 50) l b).2.1) ((e9 nS (min n 50) l b).2.2) (rS (e9 nS (min n 50) l b).1)):=by
 cases hk:min n 50 with
 |zero=>
  refine⟨fun _=>?_,fun h=>absurd rfl h⟩
  exact f1p s d1 d2 d3 d4 d5 d6 d7 d8 k1 k2 (ps s l) b 0 (n:Int) (by omega)
 |succ m=>
  cases b with
  |true=>
   have e:e9 nS (m+1) l true=([],l,true):=rfl
   rw[e]
   refine⟨fun _=>?_,fun h=>absurd rfl h⟩
   exact f1q s d1 d2 d3 d4 d5 d6 d7 d8 k1 k2 (ps s l) 0 (n:Int) (by omega) (by omega)
  |false=>
   have e:e9 nS (m+1) l false=((nS l false).1::(e9 nS m (nS l false).2.1 (nS l false).2.2).1,(e9 nS m (nS l false).2.1 (nS l false).2.2).2):=by rw[e9,if_neg (by simp)]
   rw[e]
   refine⟨fun h=>(by cases h),fun _=>?_⟩
   have f1:=k9 s l false hm hs0
   have hs1:=n7 false hs0
   have hr:=f1r s d1 d2 d3 d4 d5 d6 d7 d8 k1 k2 _ _ 0 (n:Int) _ _ (by omega) (by omega) f1
   have ih:=d6j s d1 d2 d3 d4 d5 d6 d7 d8 k1 k2 hm n hn m 1 1 (rS [(nS l false).1]) (nS l false).2.1 (nS l false).2.2 (J6 s l false hs0) (by omega) (by omega) (by simp[rS])
   rw[show((1:Nat):Int)=0+1 from rfl,Nat.add_comm 1 (e9 nS m (nS l false).2.1 (nS l false).2.2).1.length,show rS [(nS l false).1]++rS (e9 nS m (nS l false).2.1 (nS l false).2.2).1=rS ((nS l false).1::(e9 nS m (nS l false).2.1 (nS l false).2.2).1) by simp[rS]]at ih
   exact hr.trans ih
theorem f2t(s:List UInt8)(d1 d2 d3 d4 d5 d6 d7 d8:D)(k1 k2:Bool)(M:Nat)(Q:List (List D))(hm:s.length<=1000000000)(n:Nat)(hn:n<=1000000000)(l:List UInt8)(b:Bool)(hs0:l<:+s):((e9 nS (min n 50) l b).1=[]->N1 s d1 d2 d3 d4 d5 d6 d7 d8 k1 k2 M Q 0 (n:Int) (ps s l) b=a0v s d1 d2 d3 d4 d5 d6 d7 d8 k1 k2 M Q (ps s (e9 nS (min n 50) l b).2.1) ((e9 nS (min n 50) l b).2.2))∧((e9 nS (min n 50) l b).1≠[]->N1 s d1 d2 d3 d4 d5 d6 d7 d8 k1 k2 M Q 0 (n:Int) (ps s l) b=W1 s d1 d2 d3 d4 d5 d6 d7 d8 k1 k2 M Q ((e9 nS (min n 50) l b).1.length) (ps s (e9 nS (min n 50) l b).2.1) ((e9 nS (min n 50) l b).2.2) (rS (e9 nS (min n 50) l b).1)):=by
 cases hk:min n 50 with
 |zero=>
  refine⟨fun _=>?_,fun h=>absurd rfl h⟩
  exact f1w s d1 d2 d3 d4 d5 d6 d7 d8 k1 k2 M Q (ps s l) b 0 (n:Int) (by omega)
 |succ m=>
  cases b with
  |true=>
   have e:e9 nS (m+1) l true=([],l,true):=rfl
   rw[e]
   refine⟨fun _=>?_,fun h=>absurd rfl h⟩
   exact f1x s d1 d2 d3 d4 d5 d6 d7 d8 k1 k2 M Q (ps s l) 0 (n:Int) (by omega) (by omega)
  |false=>
   have e:e9 nS (m+1) l false=((nS l false).1::(e9 nS m (nS l false).2.1 (nS l false).2.2).1,(e9 nS m (nS l false).2.1 (nS l false).2.2).2):=by rw[e9,if_neg (by simp)]
   rw[e]
   refine⟨fun h=>(by cases h),fun _=>?_⟩
   have f1:=k9 s l false hm hs0
   have hs1:=n7 false hs0
   have hr:=f1y s d1 d2 d3 d4 d5 d6 d7 d8 k1 k2 M Q _ _ 0 (n:Int) _ _ (by omega) (by omega) f1
   have ih:=d6k s d1 d2 d3 d4 d5 d6 d7 d8 k1 k2 M Q hm n hn m 1 1 (rS [(nS l false).1]) (nS l false).2.1 (nS l false).2.2 (J6 s l false hs0) (by omega) (by omega) (by simp[rS])
   rw[show((1:Nat):Int)=0+1 from rfl,Nat.add_comm 1 (e9 nS m (nS l false).2.1 (nS l false).2.2).1.length,show rS [(nS l false).1]++rS (e9 nS m (nS l false).2.1 (nS l false).2.2).1=rS ((nS l false).1::(e9 nS m (nS l false).2.1 (nS l false).2.2).1) by simp[rS]]at ih
   exact hr.trans ih
def u0(l:List UInt8)(b:Bool):List (List UInt8)×List UInt8×Bool:=e9 nS (min (nV l b).1 100) (nV l b).2.1 (nV l b).2.2
def inS(l:List UInt8)(b:Bool):List i6×List UInt8×Bool:=o4 (min (nV l b).1 300) (nV l b).2.1 (nV l b).2.2
def r6(l:List UInt8)(b:Bool):List v9×List UInt8×Bool:=e9 r5 (min (nV l b).1 100) (nV l b).2.1 (nV l b).2.2
def clS(l:List UInt8)(b:Bool):List q9×List UInt8×Bool:=e9 i4 (min (nV l b).1 2100) (nV l b).2.1 (nV l b).2.2
def K5(l:List UInt8)(b:Bool):List (List UInt8)×List UInt8×Bool:=e9 nS (min (nV l b).1 50) (nV l b).2.1 (nV l b).2.2
def cS(s:List UInt8):n8×List UInt8×Bool:=
 let T:=u0 s false
 let I:=inS T.2.1 T.2.2
 let e:=nV I.2.1 I.2.2
 let g:=nV e.2.1 e.2.2
 (⟨T.1,I.1,0,(e.1:Int),(g.1:Int)⟩,g.2)
def sS(s:List UInt8):s8×List UInt8×Bool:=
 let V:=r6 s false
 let C:=clS V.2.1 V.2.2
 let e:=nS C.2.1 C.2.2
 (⟨V.1,C.1,e.1⟩,e.2)
def L6(rd:List UInt8->Bool)(s:List UInt8):Bool:=!(cS s).2.2&&(q8 rd (cS s).1&&decide (H2 (cS s).1=s))
def N2(s:List UInt8):Bool:=!(sS s).2.2&&(H1 (sS s).1&&decide (H3 (sS s).1=s))
def cT(ok:Bool)(c:n8):n8:=if ok=true then c else⟨[],[],0,0,0⟩
def sT(ok:Bool)(s:s8):s8:=if ok=true then s else⟨[],[],[]⟩
def dC(c:n8):List S:=[.d (c8 true 1 (rS c.Texts)),.d (c8 true 2 (g9 c.List)),zi,.d (.v (.int .i64 (c.Line))),.d (.v (.int .i64 (c.End)))]
def dS(c:s8):List S:=[.d (c8 true 2 (rV c.Vars)),.d (c8 true 3 (rC c.Cells)),.d (.v (.string (B (c.Out))))]
theorem e1m(s:List UInt8):bdC (cS s).1:=by
 have h1:=b0e nS (min (nV s false).1 100) (nV s false).2.1 (nV s false).2.2
 have h2:=b1f (min (nV s false).1 100) (nV s false).2.1 (nV s false).2.2
 have h3:=c8k (min (nV (u0 s false).2.1 (u0 s false).2.2).1 300) (nV (u0 s false).2.1 (u0 s false).2.2).2.1 (nV (u0 s false).2.1 (u0 s false).2.2).2.2
 exact⟨by show(u0 s false).1.length<=_;unfold u0;omega,by show(inS (u0 s false).2.1 (u0 s false).2.2).1.length<=_;unfold inS;omega,fun t ht=>by have:=h2 t ht;omega⟩
theorem e1n(s:List UInt8):bdS (sS s).1:=by
 have h1:=b0e r5 (min (nV s false).1 100) (nV s false).2.1 (nV s false).2.2
 have h2:=b4t (min (nV s false).1 100) (nV s false).2.1 (nV s false).2.2
 have h3:=b0e i4 (min (nV (r6 s false).2.1 (r6 s false).2.2).1 2100) (nV (r6 s false).2.1 (r6 s false).2.2).2.1 (nV (r6 s false).2.1 (r6 s false).2.2).2.2
 have h4:=b4u (min (nV (r6 s false).2.1 (r6 s false).2.2).1 2100) (nV (r6 s false).2.1 (r6 s false).2.2).2.1 (nV (r6 s false).2.1 (r6 s false).2.2).2.2
 have h5:=I7 (s:=s) (l:=(clS (r6 s false).2.1 (r6 s false).2.2).2.1) (clS (r6 s false).2.1 (r6 s false).2.2).2.2
 exact⟨by show(r6 s false).1.length<=_;unfold r6;omega,by show(clS (r6 s false).2.1 (r6 s false).2.2).1.length<=_;unfold clS;omega,fun t ht=>by have:=h2 t ht;omega,fun t ht=>by have:=h4 t ht;omega,by show(nS (clS (r6 s false).2.1 (r6 s false).2.2).2.1 (clS (r6 s false).2.1 (r6 s false).2.2).2.2).1.length<=_;omega⟩
theorem f2u(rd:List UInt8->Bool)(hR:C5 82 rd)(s:List UInt8)(hm:s.length<=1000000000):c6 Tryz.prog T1 L1 9 [.c (.d (.v (.string (B (s)))))] []=some (.tup [.agg (dC (cT (L6 rd s) (cS s).1)),.c (.d (.v (.bool (L6 rd s))))],[]):=by
 have g1:=T8 s s false hm (List.suffix_refl s)
 rw[a4f]at g1
 have s1:=J0 false (List.suffix_refl s)
 have n1:=a8r s false
 have lA:=f2q s hm (nV s false).1 n1 (nV s false).2.1 (nV s false).2.2 s1
 have s2:=a7u J6 (min (nV s false).1 100) s (nV s false).2.1 (nV s false).2.2 s1
 have g2:=T8 s (u0 s false).2.1 (u0 s false).2.2 hm s2
 have s3:=J0 (u0 s false).2.2 s2
 have n2:=a8r (u0 s false).2.1 (u0 s false).2.2
 have lB0:=e7p s hm (nV (u0 s false).2.1 (u0 s false).2.2).1 n2 _ (nV (u0 s false).2.1 (u0 s false).2.2).2.2 s3
 have lB1:=fun M Q=>e7q s M Q hm (nV (u0 s false).2.1 (u0 s false).2.2).1 n2 _ (nV (u0 s false).2.1 (u0 s false).2.2).2.2 s3
 have s4:=c4i (min (nV (u0 s false).2.1 (u0 s false).2.2).1 300) s _ (nV (u0 s false).2.1 (u0 s false).2.2).2.2 s3
 have g3:=T8 s (inS (u0 s false).2.1 (u0 s false).2.2).2.1 (inS (u0 s false).2.1 (u0 s false).2.2).2.2 hm s4
 have s5:=J0 (inS (u0 s false).2.1 (u0 s false).2.2).2.2 s4
 have g4:=T8 s _ (nV (inS (u0 s false).2.1 (u0 s false).2.2).2.1 (inS (u0 s false).2.1 (u0 s false).2.2).2.2).2.2 hm s5
 have hT:=fun p q=>b4s rd hR (cS s).1 p q (e1m s)
 have hres: ∀(q:Bool)(t:List UInt8),(q8 rd (cS s).1=q)->(q=true->t=H2 (cS s).1)->(if(!(cS s).2.2&&(q&&decide (t=s)))=true then W.tup [.agg (dC (cS s).1),.c (.d (.v (.bool (true))))]else .tup [.agg ([nl,nl,zi,zi,zi]),.c (.d (.v (.bool (false))))])=.tup [.agg (dC (cT (L6 rd s) (cS s).1)),.c (.d (.v (.bool (L6 rd s))))]:=fun q t hq ht=>by
  have e:L6 rd s=(!(cS s).2.2&&(q&&decide (t=s))):=by
   unfold L6
   rw[hq]
   cases q with
   |false=>simp
   |true=>rw[ht rfl]
  rw[e]
  cases (!(cS s).2.2&&(q&&decide (t=s)))<;>rfl
 have bA:=e8 (rS (u0 s false).1) (u0 s false).1.length (i7 _)
 have bB:=e8 (g9 (inS (u0 s false).2.1 (u0 s false).2.2).1) (inS (u0 s false).2.1 (u0 s false).2.2).1.length (k8 _)
 have b0:=e8 [] 0 rfl
 cases hq:q8 rd (cS s).1 with
 |false=>
  have hT:=fun p r=>hT p r
  simp only[hq,Bool.false_eq_true,if_false]at hT
  by_cases h1:(u0 s false).1=[]<;>by_cases h2:(inS (u0 s false).2.1 (u0 s false).2.2).1=[]
  ·replace hT:=hT true true
   rw[show c8 true 1 (rS (cS s).1.Texts)=.v (.slice none 0 0)from j6 _ _ (by rw[show(cS s).1.Texts=[]from h1];rfl),show c8 true 2 (g9 (cS s).1.List)=.v (.slice none 0 0)from j6 _ _ (by rw[show(cS s).1.List=[]from h2];rfl)]at hT
   have fin:=d6l s _ _ _ _ _ _ _ _ _ _ _ _ false _ _ _ _ [] ([]) 0 0 [] [] g1 (lA.1 h1) g2 (lB0.1 h2) g3 g4 b0 b0 hT
   refine fin.trans ?_
   rw[<-hres false ([]) hq (fun _=>by contradiction)]
   unfold dC
   rw[(show c8 true 1 (rS (cS s).1.Texts)=.v (.slice none 0 0)from j6 _ _ (by rw[show(cS s).1.Texts=[]from h1];rfl)),(show c8 true 2 (g9 (cS s).1.List)=.v (.slice none 0 0)from j6 _ _ (by rw[show(cS s).1.List=[]from h2];rfl))]
   rfl
  ·replace hT:=hT true false
   rw[show c8 true 1 (rS (cS s).1.Texts)=.v (.slice none 0 0)from j6 _ _ (by rw[show(cS s).1.Texts=[]from h1];rfl)]at hT
   have fin:=d6m s _ _ _ _ _ _ _ _ _ _ _ _ false _ _ _ _ [] ([]) 0 (inS (u0 s false).2.1 (u0 s false).2.2).1.length [] (g9 (inS (u0 s false).2.1 (u0 s false).2.2).1) g1 (lA.1 h1) g2 (lB0.2 h2) g3 g4 b0 bB hT
   refine fin.trans ?_
   rw[<-hres false ([]) hq (fun _=>by contradiction)]
   unfold dC
   rw[(show c8 true 1 (rS (cS s).1.Texts)=.v (.slice none 0 0)from j6 _ _ (by rw[show(cS s).1.Texts=[]from h1];rfl)),(show c8 true 2 (g9 (cS s).1.List)=.sl 2 (g9 (cS s).1.List)from o7 _ _ _ (D9 h2))]
   rfl
  ·replace hT:=hT false true
   rw[show c8 true 2 (g9 (cS s).1.List)=.v (.slice none 0 0)from j6 _ _ (by rw[show(cS s).1.List=[]from h2];rfl)]at hT
   have fin:=d6n s _ _ _ _ _ _ _ _ _ _ _ _ false _ _ _ _ [] ([]) (u0 s false).1.length 0 (rS (u0 s false).1) [] g1 (lA.2 h1) g2 ((lB1 (u0 s false).1.length (rS (u0 s false).1)).1 h2) g3 g4 bA b0 hT
   refine fin.trans ?_
   rw[<-hres false ([]) hq (fun _=>by contradiction)]
   unfold dC
   rw[(show c8 true 1 (rS (cS s).1.Texts)=.sl 1 (rS (cS s).1.Texts)from o7 _ _ _ (F5 h1)),(show c8 true 2 (g9 (cS s).1.List)=.v (.slice none 0 0)from j6 _ _ (by rw[show(cS s).1.List=[]from h2];rfl))]
   rfl
  ·replace hT:=hT false false
   have fin:=d6o s _ _ _ _ _ _ _ _ _ _ _ _ false _ _ _ _ [] ([]) (u0 s false).1.length (inS (u0 s false).2.1 (u0 s false).2.2).1.length (rS (u0 s false).1) (g9 (inS (u0 s false).2.1 (u0 s false).2.2).1) g1 (lA.2 h1) g2 ((lB1 (u0 s false).1.length (rS (u0 s false).1)).2 h2) g3 g4 bA bB hT
   refine fin.trans ?_
   rw[<-hres false ([]) hq (fun _=>by contradiction)]
   unfold dC
   rw[(show c8 true 1 (rS (cS s).1.Texts)=.sl 1 (rS (cS s).1.Texts)from o7 _ _ _ (F5 h1)),(show c8 true 2 (g9 (cS s).1.List)=.sl 2 (g9 (cS s).1.List)from o7 _ _ _ (D9 h2))]
   rfl
 |true=>
  have hT:=fun p r=>hT p r
  simp only[hq,if_true]at hT
  by_cases h1:(u0 s false).1=[]<;>by_cases h2:(inS (u0 s false).2.1 (u0 s false).2.2).1=[]
  ·replace hT:=hT true true
   rw[show c8 true 1 (rS (cS s).1.Texts)=.v (.slice none 0 0)from j6 _ _ (by rw[show(cS s).1.Texts=[]from h1];rfl),show c8 true 2 (g9 (cS s).1.List)=.v (.slice none 0 0)from j6 _ _ (by rw[show(cS s).1.List=[]from h2];rfl)]at hT
   have fin:=d6l s _ _ _ _ _ _ _ _ _ _ _ _ true _ _ _ _ [] (H2 (cS s).1) 0 0 [] [] g1 (lA.1 h1) g2 (lB0.1 h2) g3 g4 b0 b0 hT
   refine fin.trans ?_
   rw[<-hres true (H2 (cS s).1) hq (fun _=>rfl)]
   unfold dC
   rw[(show c8 true 1 (rS (cS s).1.Texts)=.v (.slice none 0 0)from j6 _ _ (by rw[show(cS s).1.Texts=[]from h1];rfl)),(show c8 true 2 (g9 (cS s).1.List)=.v (.slice none 0 0)from j6 _ _ (by rw[show(cS s).1.List=[]from h2];rfl))]
   rfl
  ·replace hT:=hT true false
   rw[show c8 true 1 (rS (cS s).1.Texts)=.v (.slice none 0 0)from j6 _ _ (by rw[show(cS s).1.Texts=[]from h1];rfl)]at hT
   have fin:=d6m s _ _ _ _ _ _ _ _ _ _ _ _ true _ _ _ _ [] (H2 (cS s).1) 0 (inS (u0 s false).2.1 (u0 s false).2.2).1.length [] (g9 (inS (u0 s false).2.1 (u0 s false).2.2).1) g1 (lA.1 h1) g2 (lB0.2 h2) g3 g4 b0 bB hT
   refine fin.trans ?_
   rw[<-hres true (H2 (cS s).1) hq (fun _=>rfl)]
   unfold dC
   rw[(show c8 true 1 (rS (cS s).1.Texts)=.v (.slice none 0 0)from j6 _ _ (by rw[show(cS s).1.Texts=[]from h1];rfl)),(show c8 true 2 (g9 (cS s).1.List)=.sl 2 (g9 (cS s).1.List)from o7 _ _ _ (D9 h2))]
   rfl
  ·replace hT:=hT false true
   rw[show c8 true 2 (g9 (cS s).1.List)=.v (.slice none 0 0)from j6 _ _ (by rw[show(cS s).1.List=[]from h2];rfl)]at hT
   have fin:=d6n s _ _ _ _ _ _ _ _ _ _ _ _ true _ _ _ _ [] (H2 (cS s).1) (u0 s false).1.length 0 (rS (u0 s false).1) [] g1 (lA.2 h1) g2 ((lB1 (u0 s false).1.length (rS (u0 s false).1)).1 h2) g3 g4 bA b0 hT
   refine fin.trans ?_
   rw[<-hres true (H2 (cS s).1) hq (fun _=>rfl)]
   unfold dC
   rw[(show c8 true 1 (rS (cS s).1.Texts)=.sl 1 (rS (cS s).1.Texts)from o7 _ _ _ (F5 h1)),(show c8 true 2 (g9 (cS s).1.List)=.v (.slice none 0 0)from j6 _ _ (by rw[show(cS s).1.List=[]from h2];rfl))]
   rfl
  ·replace hT:=hT false false
   have fin:=d6o s _ _ _ _ _ _ _ _ _ _ _ _ true _ _ _ _ [] (H2 (cS s).1) (u0 s false).1.length (inS (u0 s false).2.1 (u0 s false).2.2).1.length (rS (u0 s false).1) (g9 (inS (u0 s false).2.1 (u0 s false).2.2).1) g1 (lA.2 h1) g2 ((lB1 (u0 s false).1.length (rS (u0 s false).1)).2 h2) g3 g4 bA bB hT
   refine fin.trans ?_
   rw[<-hres true (H2 (cS s).1) hq (fun _=>rfl)]
   unfold dC
   rw[(show c8 true 1 (rS (cS s).1.Texts)=.sl 1 (rS (cS s).1.Texts)from o7 _ _ _ (F5 h1)),(show c8 true 2 (g9 (cS s).1.List)=.sl 2 (g9 (cS s).1.List)from o7 _ _ _ (D9 h2))]
   rfl
theorem f2v(s:List UInt8)(hm:s.length<=1000000000):c6 Tryz.prog T1 L1 11 [.c (.d (.v (.string (B (s)))))] []=some (.tup [.agg (dS (sT (N2 s) (sS s).1)),.c (.d (.v (.bool (N2 s))))],[]):=by
 have g1:=T8 s s false hm (List.suffix_refl s)
 rw[a4f]at g1
 have s1:=J0 false (List.suffix_refl s)
 have n1:=a8r s false
 have lA:=f2r s hm (nV s false).1 n1 (nV s false).2.1 (nV s false).2.2 s1
 have s2:=a7u a6p (min (nV s false).1 100) s (nV s false).2.1 (nV s false).2.2 s1
 have g2:=T8 s (r6 s false).2.1 (r6 s false).2.2 hm s2
 have s3:=J0 (r6 s false).2.2 s2
 have n2:=a8r (r6 s false).2.1 (r6 s false).2.2
 have lB0:=e7r s hm (nV (r6 s false).2.1 (r6 s false).2.2).1 n2 _ (nV (r6 s false).2.1 (r6 s false).2.2).2.2 s3
 have lB1:=fun M Q=>e7s s M Q hm (nV (r6 s false).2.1 (r6 s false).2.2).1 n2 _ (nV (r6 s false).2.1 (r6 s false).2.2).2.2 s3
 have s4:=a7u N9 (min (nV (r6 s false).2.1 (r6 s false).2.2).1 2100) s _ (nV (r6 s false).2.1 (r6 s false).2.2).2.2 s3
 have g3:=k9 s (clS (r6 s false).2.1 (r6 s false).2.2).2.1 (clS (r6 s false).2.1 (r6 s false).2.2).2.2 hm s4
 have hT:=fun p q=>b2r (sS s).1 p q (e1n s)
 have hres: ∀(q:Bool)(t:List UInt8),(H1 (sS s).1=q)->(q=true->t=H3 (sS s).1)->(if(!(sS s).2.2&&(q&&decide (t=s)))=true then W.tup [.agg (dS (sS s).1),.c (.d (.v (.bool (true))))]else .tup [.agg ([nl,nl,es]),.c (.d (.v (.bool (false))))])=.tup [.agg (dS (sT (N2 s) (sS s).1)),.c (.d (.v (.bool (N2 s))))]:=fun q t hq ht=>by
  have e:N2 s=(!(sS s).2.2&&(q&&decide (t=s))):=by
   unfold N2
   rw[hq]
   cases q with
   |false=>simp
   |true=>rw[ht rfl]
  rw[e]
  cases (!(sS s).2.2&&(q&&decide (t=s)))<;>rfl
 have bA:=e8 (rV (r6 s false).1) (r6 s false).1.length (l7 _)
 have bB:=e8 (rC (clS (r6 s false).2.1 (r6 s false).2.2).1) (clS (r6 s false).2.1 (r6 s false).2.2).1.length (l8 _)
 have b0:=e8 [] 0 rfl
 cases hq:H1 (sS s).1 with
 |false=>
  have hT:=fun p r=>hT p r
  simp only[hq,Bool.false_eq_true,if_false]at hT
  by_cases h1:(r6 s false).1=[]<;>by_cases h2:(clS (r6 s false).2.1 (r6 s false).2.2).1=[]
  ·replace hT:=hT true true
   rw[show c8 true 2 (rV (sS s).1.Vars)=.v (.slice none 0 0)from j6 _ _ (by rw[show(sS s).1.Vars=[]from h1];rfl),show c8 true 3 (rC (sS s).1.Cells)=.v (.slice none 0 0)from j6 _ _ (by rw[show(sS s).1.Cells=[]from h2];rfl)]at hT
   have fin:=d6p s _ _ _ _ 0 _ _ _ _ _ false _ false _ _ 0 0 _ ([]) 0 0 [] [] g1 (lA.1 h1) g2 (lB0.1 h2) g3 b0 b0 hT
   refine fin.trans ?_
   rw[<-hres false ([]) hq (fun _=>by contradiction)]
   unfold dS
   rw[(show c8 true 2 (rV (sS s).1.Vars)=.v (.slice none 0 0)from j6 _ _ (by rw[show(sS s).1.Vars=[]from h1];rfl)),(show c8 true 3 (rC (sS s).1.Cells)=.v (.slice none 0 0)from j6 _ _ (by rw[show(sS s).1.Cells=[]from h2];rfl))]
   rfl
  ·replace hT:=hT true false
   rw[show c8 true 2 (rV (sS s).1.Vars)=.v (.slice none 0 0)from j6 _ _ (by rw[show(sS s).1.Vars=[]from h1];rfl)]at hT
   have fin:=d6q s _ _ _ _ 0 _ _ _ _ _ false _ false _ _ 0 0 _ ([]) 0 (clS (r6 s false).2.1 (r6 s false).2.2).1.length [] (rC (clS (r6 s false).2.1 (r6 s false).2.2).1) g1 (lA.1 h1) g2 (lB0.2 h2) g3 b0 bB hT
   refine fin.trans ?_
   rw[<-hres false ([]) hq (fun _=>by contradiction)]
   unfold dS
   rw[(show c8 true 2 (rV (sS s).1.Vars)=.v (.slice none 0 0)from j6 _ _ (by rw[show(sS s).1.Vars=[]from h1];rfl)),(show c8 true 3 (rC (sS s).1.Cells)=.sl 3 (rC (sS s).1.Cells)from o7 _ _ _ (I9 h2))]
   rfl
  ·replace hT:=hT false true
   rw[show c8 true 3 (rC (sS s).1.Cells)=.v (.slice none 0 0)from j6 _ _ (by rw[show(sS s).1.Cells=[]from h2];rfl)]at hT
   have fin:=d6r s _ _ _ _ 0 _ _ _ _ _ false _ false _ _ 0 0 _ ([]) (r6 s false).1.length 0 (rV (r6 s false).1) [] g1 (lA.2 h1) g2 ((lB1 (r6 s false).1.length (rV (r6 s false).1)).1 h2) g3 bA b0 hT
   refine fin.trans ?_
   rw[<-hres false ([]) hq (fun _=>by contradiction)]
   unfold dS
   rw[(show c8 true 2 (rV (sS s).1.Vars)=.sl 2 (rV (sS s).1.Vars)from o7 _ _ _ (I8 h1)),(show c8 true 3 (rC (sS s).1.Cells)=.v (.slice none 0 0)from j6 _ _ (by rw[show(sS s).1.Cells=[]from h2];rfl))]
   rfl
  ·replace hT:=hT false false
   have fin:=d6s s _ _ _ _ 0 _ _ _ _ _ false _ false _ _ 0 0 _ ([]) (r6 s false).1.length (clS (r6 s false).2.1 (r6 s false).2.2).1.length (rV (r6 s false).1) (rC (clS (r6 s false).2.1 (r6 s false).2.2).1) g1 (lA.2 h1) g2 ((lB1 (r6 s false).1.length (rV (r6 s false).1)).2 h2) g3 bA bB hT
   refine fin.trans ?_
   rw[<-hres false ([]) hq (fun _=>by contradiction)]
   unfold dS
   rw[(show c8 true 2 (rV (sS s).1.Vars)=.sl 2 (rV (sS s).1.Vars)from o7 _ _ _ (I8 h1)),(show c8 true 3 (rC (sS s).1.Cells)=.sl 3 (rC (sS s).1.Cells)from o7 _ _ _ (I9 h2))]
   rfl
 |true=>
  have hT:=fun p r=>hT p r
  simp only[hq,if_true]at hT
  by_cases h1:(r6 s false).1=[]<;>by_cases h2:(clS (r6 s false).2.1 (r6 s false).2.2).1=[]
  ·replace hT:=hT true true
   rw[show c8 true 2 (rV (sS s).1.Vars)=.v (.slice none 0 0)from j6 _ _ (by rw[show(sS s).1.Vars=[]from h1];rfl),show c8 true 3 (rC (sS s).1.Cells)=.v (.slice none 0 0)from j6 _ _ (by rw[show(sS s).1.Cells=[]from h2];rfl)]at hT
   have fin:=d6p s _ _ _ _ 0 _ _ _ _ _ false _ true _ _ 0 0 _ (H3 (sS s).1) 0 0 [] [] g1 (lA.1 h1) g2 (lB0.1 h2) g3 b0 b0 hT
   refine fin.trans ?_
   rw[<-hres true (H3 (sS s).1) hq (fun _=>rfl)]
   unfold dS
   rw[(show c8 true 2 (rV (sS s).1.Vars)=.v (.slice none 0 0)from j6 _ _ (by rw[show(sS s).1.Vars=[]from h1];rfl)),(show c8 true 3 (rC (sS s).1.Cells)=.v (.slice none 0 0)from j6 _ _ (by rw[show(sS s).1.Cells=[]from h2];rfl))]
   rfl
  ·replace hT:=hT true false
   rw[show c8 true 2 (rV (sS s).1.Vars)=.v (.slice none 0 0)from j6 _ _ (by rw[show(sS s).1.Vars=[]from h1];rfl)]at hT
   have fin:=d6q s _ _ _ _ 0 _ _ _ _ _ false _ true _ _ 0 0 _ (H3 (sS s).1) 0 (clS (r6 s false).2.1 (r6 s false).2.2).1.length [] (rC (clS (r6 s false).2.1 (r6 s false).2.2).1) g1 (lA.1 h1) g2 (lB0.2 h2) g3 b0 bB hT
   refine fin.trans ?_
   rw[<-hres true (H3 (sS s).1) hq (fun _=>rfl)]
   unfold dS
   rw[(show c8 true 2 (rV (sS s).1.Vars)=.v (.slice none 0 0)from j6 _ _ (by rw[show(sS s).1.Vars=[]from h1];rfl)),(show c8 true 3 (rC (sS s).1.Cells)=.sl 3 (rC (sS s).1.Cells)from o7 _ _ _ (I9 h2))]
   rfl
  ·replace hT:=hT false true
   rw[show c8 true 3 (rC (sS s).1.Cells)=.v (.slice none 0 0)from j6 _ _ (by rw[show(sS s).1.Cells=[]from h2];rfl)]at hT
   have fin:=d6r s _ _ _ _ 0 _ _ _ _ _ false _ true _ _ 0 0 _ (H3 (sS s).1) (r6 s false).1.length 0 (rV (r6 s false).1) [] g1 (lA.2 h1) g2 ((lB1 (r6 s false).1.length (rV (r6 s false).1)).1 h2) g3 bA b0 hT
   refine fin.trans ?_
   rw[<-hres true (H3 (sS s).1) hq (fun _=>rfl)]
   unfold dS
   rw[(show c8 true 2 (rV (sS s).1.Vars)=.sl 2 (rV (sS s).1.Vars)from o7 _ _ _ (I8 h1)),(show c8 true 3 (rC (sS s).1.Cells)=.v (.slice none 0 0)from j6 _ _ (by rw[show(sS s).1.Cells=[]from h2];rfl))]
   rfl
  ·replace hT:=hT false false
   have fin:=d6s s _ _ _ _ 0 _ _ _ _ _ false _ true _ _ 0 0 _ (H3 (sS s).1) (r6 s false).1.length (clS (r6 s false).2.1 (r6 s false).2.2).1.length (rV (r6 s false).1) (rC (clS (r6 s false).2.1 (r6 s false).2.2).1) g1 (lA.2 h1) g2 ((lB1 (r6 s false).1.length (rV (r6 s false).1)).2 h2) g3 bA bB hT
   refine fin.trans ?_
   rw[<-hres true (H3 (sS s).1) hq (fun _=>rfl)]
   unfold dS
   rw[(show c8 true 2 (rV (sS s).1.Vars)=.sl 2 (rV (sS s).1.Vars)from o7 _ _ _ (I8 h1)),(show c8 true 3 (rC (sS s).1.Cells)=.sl 3 (rC (sS s).1.Cells)from o7 _ _ _ (I9 h2))]
   rfl
end
end Go.Vsi
