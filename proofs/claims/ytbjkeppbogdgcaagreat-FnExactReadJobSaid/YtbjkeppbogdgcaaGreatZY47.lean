/- What the functions of the program, of the reference and of the law do (a part of it). -/
import Derived.Test.YtbjkeppbogdgcaaGreatZY46
namespace Go.Vsi
open Go.Proofs
noncomputable section
set_option maxRecDepth 100000
set_option maxHeartbeats 4000000
set_option linter.unusedSimpArgs false
set_option linter.unusedVariables false
attribute [local go_sem ↓] v6
structure FR{α:Type}(f:List UInt8->Bool->α×List UInt8×Bool)(R:List UInt8->Option (α×List UInt8)):Prop where
 yes: ∀l x r,R l=some (x,r)->f l false=(x,r,false)
 no: ∀l b,(f l b).2.2=false->b=false∧ ∃x r,R l=some (x,r)
theorem FR.get{α:Type}{f:List UInt8->Bool->α×List UInt8×Bool}{R:List UInt8->Option (α×List UInt8)}(h:FR f R)(l:List UInt8)(b:Bool)(hb:(f l b).2.2=false):b=false∧R l=some ((f l b).1,(f l b).2.1):=by
 obtain⟨h1,x,r,h2⟩:=h.no l b hb
 subst h1
 rw[h.yes l x r h2]
 exact⟨rfl,h2⟩
theorem e1o{α:Type}{f:List UInt8->Bool->α×List UInt8×Bool}{R:List UInt8->Option (α×List UInt8)}(h:FR f R): ∀(n:Nat)(l:List UInt8)(b:Bool),(i2 f n l b).2.2=false->b=false∧rdN R n l=some ((i2 f n l b).1,(i2 f n l b).2.1)
 |0,l,b,hb=>⟨hb,rfl⟩
 |n+1,l,b,hb=>by
  obtain⟨h1,h2⟩:=e1o h n (f l b).2.1 (f l b).2.2 hb
  obtain⟨h3,h4⟩:=h.get l b h1
  refine⟨h3,?_⟩
  rw[rdN,h4]
  simp only[h2,i2]
theorem e1p{α:Type}{f:List UInt8->Bool->α×List UInt8×Bool}{R:List UInt8->Option (α×List UInt8)}(h:FR f R): ∀(n:Nat)(l:List UInt8)(xs:List α)(r:List UInt8),rdN R n l=some (xs,r)->i2 f n l false=(xs,r,false)
 |0,l,xs,r,hr=>by
  obtain⟨rfl,rfl⟩:=Prod.mk.inj (Option.some.inj hr)
  rfl
 |n+1,l,xs,r,hr=>by
  rw[rdN]at hr
  split at hr
  ·cases hr
  ·rename_i x q hx
   split at hr
   ·cases hr
   ·rename_i ys q2 hy
    obtain⟨rfl,rfl⟩:=Prod.mk.inj (Option.some.inj hr)
    rw[i2,h.yes l x q hx]
    simp only[e1p h n q ys q2 hy]
theorem d6v{α:Type}{f:List UInt8->Bool->α×List UInt8×Bool}{R:List UInt8->Option (α×List UInt8)}(h:FR f R): ∀(n:Nat)(l:List UInt8)(b:Bool),(e9 f n l b).2.2=false->b=false∧rdN R n l=some ((e9 f n l b).1,(e9 f n l b).2.1)
 |0,l,b,hb=>⟨hb,rfl⟩
 |n+1,l,b,hb=>by
  cases b with
  |true=>rw[e9,if_pos rfl]at hb;cases hb
  |false=>
   have e:e9 f (n+1) l false=((f l false).1::(e9 f n (f l false).2.1 (f l false).2.2).1,(e9 f n (f l false).2.1 (f l false).2.2).2):=by rw[e9,if_neg (by simp)]
   rw[e]at hb⊢
   obtain⟨h1,h2⟩:=d6v h n (f l false).2.1 (f l false).2.2 hb
   obtain⟨h3,h4⟩:=h.get l false h1
   refine⟨rfl,?_⟩
   rw[rdN,h4]
   simp only[h2]
theorem d6w{α:Type}{f:List UInt8->Bool->α×List UInt8×Bool}{R:List UInt8->Option (α×List UInt8)}(h:FR f R): ∀(n:Nat)(l:List UInt8)(xs:List α)(r:List UInt8),rdN R n l=some (xs,r)->e9 f n l false=(xs,r,false)
 |0,l,xs,r,hr=>by
  obtain⟨rfl,rfl⟩:=Prod.mk.inj (Option.some.inj hr)
  rfl
 |n+1,l,xs,r,hr=>by
  rw[rdN]at hr
  split at hr
  ·cases hr
  ·rename_i x q hx
   split at hr
   ·cases hr
   ·rename_i ys q2 hy
    obtain⟨rfl,rfl⟩:=Prod.mk.inj (Option.some.inj hr)
    rw[e9,if_neg (by simp),h.yes l x q hx]
    simp only[d6w h n q ys q2 hy]
def a7v(l:List UInt8):Option (i6×List UInt8):=match rdI l with
 |some ((x,y),r)=>some (⟨(x.toNat:Int),(y.toNat:Int)⟩,r)
 |none=>none
theorem d6x: ∀(n:Nat)(l:List UInt8)(b:Bool),(o4 n l b).2.2=false->b=false∧rdN a7v n l=some ((o4 n l b).1,(o4 n l b).2.1)
 |0,l,b,hb=>⟨hb,rfl⟩
 |n+1,l,b,hb=>by
  cases b with
  |true=>rw[o4,if_pos rfl]at hb;cases hb
  |false=>
   rw[o4,if_neg (by simp)]at hb⊢
   rw[rdN,a7v]
   cases hr:rdI l with
   |none=>rw[hr]at hb;cases hb
   |some z=>
    obtain⟨⟨x,y⟩,r⟩:=z
    rw[hr]at hb
    simp only at hb⊢
    obtain⟨_,h2⟩:=d6x n r false hb
    simp only[h2,and_self]
theorem d6y: ∀(n:Nat)(l:List UInt8)(xs:List i6)(r:List UInt8),rdN a7v n l=some (xs,r)->o4 n l false=(xs,r,false)
 |0,l,xs,r,hr=>by
  obtain⟨rfl,rfl⟩:=Prod.mk.inj (Option.some.inj hr)
  rfl
 |n+1,l,xs,r,hr=>by
  rw[rdN,a7v]at hr
  rw[o4,if_neg (by simp)]
  cases hi:rdI l with
  |none=>rw[hi]at hr;cases hr
  |some z=>
   obtain⟨⟨x,y⟩,q⟩:=z
   rw[hi]at hr
   simp only at hr⊢
   split at hr
   ·cases hr
   ·rename_i ys q2 hy
    obtain⟨rfl,rfl⟩:=Prod.mk.inj (Option.some.inj hr)
    simp only[d6y n q ys q2 hy]
theorem a3r:FR nV rdV:=⟨fun l x r h=>by unfold nV;rw[h],fun l b h=>by
 unfold nV at h
 split at h
 ·rename_i v r hr;exact⟨rfl,v,r,hr⟩
 ·cases h⟩
theorem G1:FR nS rdS:=⟨fun l x r h=>by unfold nS;rw[h],fun l b h=>by
 unfold nS at h
 split at h
 ·rename_i v r hr;exact⟨rfl,v,r,hr⟩
 ·cases h⟩
def b9f(l:List UInt8):Option (v9×List UInt8):=match rdS l with
 |some (x,r)=>match rdS r with
  |some (y,q)=>some (⟨x,y⟩,q)
  |none=>none
 |none=>none
def b9g(l:List UInt8):Option (q9×List UInt8):=match rdS l with
 |some (x,r)=>match rdS r with
  |some (y,q)=>match rdS q with
   |some (z,p)=>some (⟨x,y,z⟩,p)
   |none=>none
  |none=>none
 |none=>none
theorem c1s:FR r5 b9f:=⟨fun l x r h=>by
 unfold b9f at h
 split at h
 ·rename_i a q ha
  split at h
  ·rename_i b p hb
   obtain⟨rfl,rfl⟩:=Prod.mk.inj (Option.some.inj h)
   unfold r5
   rw[G1.yes l a q ha,G1.yes q b _ hb]
  ·cases h
 ·(cases h),fun l b h=>by
 obtain⟨h1,h2⟩:=G1.get _ _ h
 obtain⟨h3,h4⟩:=G1.get _ _ h1
 refine⟨h3,(r5 l b).1,(r5 l b).2.1,?_⟩
 unfold b9f
 rw[h4]
 simp only[h2]
 rfl⟩
theorem c1t:FR i4 b9g:=⟨fun l x r h=>by
 unfold b9g at h
 split at h
 ·rename_i a q ha
  split at h
  ·rename_i b p hb
   split at h
   ·rename_i c o hc
    obtain⟨rfl,rfl⟩:=Prod.mk.inj (Option.some.inj h)
    unfold i4
    rw[G1.yes l a q ha,G1.yes q b p hb,G1.yes p c _ hc]
   ·cases h
  ·cases h
 ·(cases h),fun l b h=>by
 obtain⟨h1,h2⟩:=G1.get _ _ h
 obtain⟨h3,h4⟩:=G1.get _ _ h1
 obtain⟨h5,h6⟩:=G1.get _ _ h3
 refine⟨h5,(i4 l b).1,(i4 l b).2.1,?_⟩
 unfold b9g
 rw[h6]
 simp only[h4,h2]
 rfl⟩
theorem e1q:FR r4 a7v:=⟨fun l x r h=>by
 unfold a7v at h
 cases hi:rdI l with
 |none=>rw[hi]at h;cases h
 |some z=>
  obtain⟨⟨a,b⟩,q⟩:=z
  rw[hi]at h
  obtain⟨rfl,rfl⟩:=Prod.mk.inj (Option.some.inj h)
  have:=b5o _ _ _ hi
  rw[this]
  rfl,fun l b h=>by
 match b,l with
 |true,l=>exact absurd h (by unfold r4 nO;simp)
 |false,[]=>exact absurd h (by unfold r4 nO;simp)
 |false,[x]=>exact absurd h (by unfold r4 nO;simp)
 |false,x::y::r=>exact⟨rfl,_,r,rfl⟩⟩
theorem e0m(l r:List UInt8)(x:i6)(h:a7v l=some (x,r)):l=a1s x++r:=by
 unfold a7v at h
 cases hi:rdI l with
 |none=>rw[hi]at h;cases h
 |some z=>
  obtain⟨⟨a,b⟩,q⟩:=z
  rw[hi]at h
  obtain⟨rfl,rfl⟩:=Prod.mk.inj (Option.some.inj h)
  rw[b5o _ _ _ hi]
  unfold d9k a1s
  simp
theorem e0n(l r:List UInt8)(x:v9)(h:b9f l=some (x,r)):l=V0 x++r:=by
 unfold b9f at h
 split at h
 ·rename_i a q ha
  split at h
  ·rename_i b p hb
   obtain⟨rfl,rfl⟩:=Prod.mk.inj (Option.some.inj h)
   rw[(J5 _ _ _ ha).1,(J5 _ _ _ hb).1]
   simp[V0]
  ·cases h
 ·cases h
theorem e0o(l r:List UInt8)(x:q9)(h:b9g l=some (x,r)):l=Z0 x++r:=by
 unfold b9g at h
 split at h
 ·rename_i a q ha
  split at h
  ·rename_i b p hb
   split at h
   ·rename_i c o hc
    obtain⟨rfl,rfl⟩:=Prod.mk.inj (Option.some.inj h)
    rw[(J5 _ _ _ ha).1,(J5 _ _ _ hb).1,(J5 _ _ _ hc).1]
    simp[Z0]
   ·cases h
  ·cases h
 ·cases h
def ChL{α:Type}(R:List UInt8->Option (α×List UInt8))(l:List UInt8)(xs:List α)(r:List UInt8):Prop:= ∃q,rdV l=some (xs.length,q)∧rdN R xs.length q=some (xs,r)
theorem a6q{α:Type}{R:List UInt8->Option (α×List UInt8)}{en:α->List UInt8}(h: ∀l r x,R l=some (x,r)->l=en x++r){l r:List UInt8}{xs:List α}(hc:ChL R l xs r):l=v5 xs.length++xs.flatMap en++r:=by
 obtain⟨q,h1,h2⟩:=hc
 rw[(a7j _ _ _ h1).1,(c3o (fun l x r hx=>h l r x hx) _ _ _ _ h2).2,List.append_assoc]
theorem f8s{m:Nat}{l:List UInt8}{b:Bool}(h:(nC m l b).2.2=false):b=false∧rdV l=some ((nC m l b).1,(nC m l b).2.1)∧(nC m l b).1<=m:=by
 have hle:=a0l m l b
 unfold nC at h hle⊢
 split at h
 ·cases h
 ·rename_i hm
  rw[if_neg hm]at hle⊢
  obtain⟨h1,h2⟩:=a3r.get l b h
  exact⟨h1,h2,hle⟩
theorem f8t{m n:Nat}{l r:List UInt8}(h:rdV l=some (n,r))(hn:n<=m):nC m l false=(n,r,false):=by
 unfold nC
 rw[a3r.yes l n r h,if_neg (by simp;omega)]
theorem b9h{α:Type}{f:List UInt8->Bool->α×List UInt8×Bool}{R:List UInt8->Option (α×List UInt8)}(h:FR f R)(m:Nat)(l:List UInt8)(b:Bool)(hb:(i2 f (nC m l b).1 (nC m l b).2.1 (nC m l b).2.2).2.2=false):b=false∧ChL R l (i2 f (nC m l b).1 (nC m l b).2.1 (nC m l b).2.2).1 (i2 f (nC m l b).1 (nC m l b).2.1 (nC m l b).2.2).2.1∧(i2 f (nC m l b).1 (nC m l b).2.1 (nC m l b).2.2).1.length<=m:=by
 obtain⟨h1,h2⟩:=e1o h _ _ _ hb
 obtain⟨h3,h4,h5⟩:=f8s h1
 have hl:=L4 f (nC m l b).1 (nC m l b).2.1 (nC m l b).2.2
 refine⟨h3,⟨_,by rw[hl];exact h4,by rw[hl];exact h2⟩,by rw[hl];exact h5⟩
theorem b9i{α:Type}{f:List UInt8->Bool->α×List UInt8×Bool}{R:List UInt8->Option (α×List UInt8)}(h:FR f R)(m:Nat){l r:List UInt8}{xs:List α}(hc:ChL R l xs r)(hm:xs.length<=m):i2 f (nC m l false).1 (nC m l false).2.1 (nC m l false).2.2=(xs,r,false):=by
 obtain⟨q,h1,h2⟩:=hc
 rw[f8t h1 hm]
 exact e1p h _ _ _ _ h2
theorem c4p{α:Type}{f:List UInt8->Bool->α×List UInt8×Bool}{R:List UInt8->Option (α×List UInt8)}(h:FR f R)(cap:Nat)(l:List UInt8)(b:Bool)(hb:(e9 f (min (nV l b).1 cap) (nV l b).2.1 (nV l b).2.2).2.2=false)(hl:(e9 f (min (nV l b).1 cap) (nV l b).2.1 (nV l b).2.2).1.length<cap):b=false∧ChL R l (e9 f (min (nV l b).1 cap) (nV l b).2.1 (nV l b).2.2).1 (e9 f (min (nV l b).1 cap) (nV l b).2.1 (nV l b).2.2).2.1:=by
 obtain⟨h1,h2⟩:=d6v h _ _ _ hb
 obtain⟨h3,h4⟩:=a3r.get l b h1
 have hn:=b8p _ _ _ _ h2
 have e:(nV l b).1=min (nV l b).1 cap:=by omega
 exact⟨h3,_,by rw[hn,<-e];exact h4,by rw[hn];exact h2⟩
theorem c4q{α:Type}{f:List UInt8->Bool->α×List UInt8×Bool}{R:List UInt8->Option (α×List UInt8)}(h:FR f R)(cap:Nat){l r:List UInt8}{xs:List α}(hc:ChL R l xs r)(hm:xs.length<=cap):e9 f (min (nV l false).1 cap) (nV l false).2.1 (nV l false).2.2=(xs,r,false):=by
 obtain⟨q,h1,h2⟩:=hc
 rw[a3r.yes l _ _ h1]
 simp only[Nat.min_eq_left hm]
 exact d6w h _ _ _ _ h2
end
end Go.Vsi
namespace Go.Vsi
open Go.Proofs
noncomputable section
set_option maxRecDepth 100000
set_option maxHeartbeats 4000000
set_option linter.unusedSimpArgs false
set_option linter.unusedVariables false
attribute [local go_sem ↓] v6
theorem f8u(cap:Nat)(l:List UInt8)(b:Bool)(hb:(o4 (min (nV l b).1 cap) (nV l b).2.1 (nV l b).2.2).2.2=false)(hl:(o4 (min (nV l b).1 cap) (nV l b).2.1 (nV l b).2.2).1.length<cap):b=false∧ChL a7v l (o4 (min (nV l b).1 cap) (nV l b).2.1 (nV l b).2.2).1 (o4 (min (nV l b).1 cap) (nV l b).2.1 (nV l b).2.2).2.1:=by
 obtain⟨h1,h2⟩:=d6x _ _ _ hb
 obtain⟨h3,h4⟩:=a3r.get l b h1
 have hn:=b8p _ _ _ _ h2
 have e:(nV l b).1=min (nV l b).1 cap:=by omega
 exact⟨h3,_,by rw[hn,<-e];exact h4,by rw[hn];exact h2⟩
theorem f8v(cap:Nat){l r:List UInt8}{xs:List i6}(hc:ChL a7v l xs r)(hm:xs.length<=cap):o4 (min (nV l false).1 cap) (nV l false).2.1 (nV l false).2.2=(xs,r,false):=by
 obtain⟨q,h1,h2⟩:=hc
 rw[a3r.yes l _ _ h1]
 simp only[Nat.min_eq_left hm]
 exact d6y _ _ _ _ h2
def ChC(u:List UInt8)(c:n8)(l:List UInt8):Prop:= ∃l2 l4 l5 x y,ChL rdS u c.Texts l2∧ChL a7v l2 c.List l4∧rdV l4=some (x,l5)∧rdV l5=some (y,l)∧c.Begin=0∧c.Line=(x:Int)∧c.End=(y:Int)
def ChS(u:List UInt8)(c:s8)(l:List UInt8):Prop:= ∃l2 l4,ChL b9f u c.Vars l2∧ChL b9g l2 c.Cells l4∧rdS l4=some (c.Out,l)
theorem e7t{u l:List UInt8}{c:n8}(h:ChC u c l):u=H2 c++l:=by
 obtain⟨l2,l4,l5,x,y,h1,h2,h3,h4,_,e1,e2⟩:=h
 have a1:=a6q (en:=l9) (fun l r x hx=>(J5 l x r hx).1) h1
 have a2:=a6q (en:=a1s) e0m h2
 unfold H2
 rw[e1,e2,a1,a2,(a7j _ _ _ h3).1,(a7j _ _ _ h4).1]
 simp
theorem e7u{u l:List UInt8}{c:s8}(h:ChS u c l):u=H3 c++l:=by
 obtain⟨l2,l4,h1,h2,h3⟩:=h
 have a1:=a6q (en:=V0) e0n h1
 have a2:=a6q (en:=Z0) e0o h2
 unfold H3
 rw[a1,a2,(J5 _ _ _ h3).1]
 simp
theorem f8w{u:List UInt8}(h:(S1 u).2.2=false):ChC u (S1 u).1 (S1 u).2.1:=by
 obtain⟨h1,h2⟩:=a3r.get _ _ h
 obtain⟨h3,h4⟩:=a3r.get _ _ h1
 obtain⟨h5,h6,_⟩:=b9h e1q 250 _ _ h3
 obtain⟨_,h8,_⟩:=b9h G1 60 _ _ h5
 exact⟨_,_,_,_,_,h8,h6,h4,h2,rfl,rfl,rfl⟩
theorem f8x{u l:List UInt8}{c:n8}(h:ChC u c l)(ht:c.Texts.length<=60)(hl:c.List.length<=250):S1 u=(c,l,false):=by
 obtain⟨l2,l4,l5,x,y,h1,h2,h3,h4,e0,e1,e2⟩:=h
 unfold S1
 rw[b9i G1 60 h1 ht]
 unfold cI2
 simp only
 rw[b9i e1q 250 h2 hl]
 unfold cI3
 simp only
 rw[a3r.yes _ _ _ h3]
 simp only
 rw[a3r.yes _ _ _ h4]
 obtain⟨T,I,B0,L,E⟩:=c
 simp only at e0 e1 e2⊢
 rw[e0,e1,e2]
theorem f8y{u:List UInt8}(h:(cS u).2.2=false)(ht:(cS u).1.Texts.length<100)(hl:(cS u).1.List.length<300):ChC u (cS u).1 (cS u).2.1:=by
 obtain⟨h1,h2⟩:=a3r.get _ _ h
 obtain⟨h3,h4⟩:=a3r.get _ _ h1
 obtain⟨h5,h6⟩:=f8u 300 _ _ h3 hl
 obtain⟨_,h8⟩:=c4p G1 100 _ _ h5 ht
 exact⟨_,_,_,_,_,h8,h6,h4,h2,rfl,rfl,rfl⟩
theorem f8z{u l:List UInt8}{c:n8}(h:ChC u c l)(ht:c.Texts.length<=60)(hl:c.List.length<=250):cS u=(c,l,false):=by
 obtain⟨l2,l4,l5,x,y,h1,h2,h3,h4,e0,e1,e2⟩:=h
 unfold cS u0
 rw[c4q G1 100 h1 (by omega)]
 simp only[inS]
 rw[f8v 300 h2 (by omega)]
 simp only
 rw[a3r.yes _ _ _ h3]
 simp only
 rw[a3r.yes _ _ _ h4]
 obtain⟨T,I,B0,L,E⟩:=c
 simp only at e0 e1 e2⊢
 rw[e0,e1,e2]
theorem f6w{u:List UInt8}(h:(T9 u).2.2=false):ChS u (T9 u).1 (T9 u).2.1:=by
 obtain⟨h3,h4⟩:=G1.get _ _ h
 obtain⟨h5,h6,_⟩:=b9h c1t 2000 _ _ h3
 obtain⟨_,h8,_⟩:=b9h c1s 60 _ _ h5
 exact⟨_,_,h8,h6,h4⟩
theorem f6x{u l:List UInt8}{c:s8}(h:ChS u c l)(ht:c.Vars.length<=60)(hl:c.Cells.length<=2000):T9 u=(c,l,false):=by
 obtain⟨l2,l4,h1,h2,h3⟩:=h
 unfold T9
 rw[b9i c1s 60 h1 ht]
 unfold sI2
 simp only
 rw[b9i c1t 2000 h2 hl]
 unfold sI3
 simp only
 rw[G1.yes _ _ _ h3]
theorem f9a{u:List UInt8}(h:(sS u).2.2=false)(ht:(sS u).1.Vars.length<100)(hl:(sS u).1.Cells.length<2100):ChS u (sS u).1 (sS u).2.1:=by
 obtain⟨h3,h4⟩:=G1.get _ _ h
 obtain⟨h5,h6⟩:=c4p c1t 2100 _ _ h3 hl
 obtain⟨_,h8⟩:=c4p c1s 100 _ _ h5 ht
 exact⟨_,_,h8,h6,h4⟩
theorem f9b{u l:List UInt8}{c:s8}(h:ChS u c l)(ht:c.Vars.length<=60)(hl:c.Cells.length<=2000):sS u=(c,l,false):=by
 obtain⟨l2,l4,h1,h2,h3⟩:=h
 unfold sS r6
 rw[c4q c1s 100 h1 (by omega)]
 simp only[clS]
 rw[c4q c1t 2100 h2 (by omega)]
 simp only
 rw[G1.yes _ _ _ h3]
theorem b9j{u t l:List UInt8}(h:u=t++l)(e:t=u):l=[]:=by
 subst e
 simpa using h
theorem e7v(rd:List UInt8->Bool)(u:List UInt8):okC rd (S1 u)=L6 rd u∧(L6 rd u=true->(cS u).1=(S1 u).1):=by
 have key: ∀(c:n8)(l:List UInt8),ChC u c l->q8 rd c=true->(l=[]↔H2 c=u):=fun c l hc _=>by
  have:=e7t hc
  exact⟨fun h=>by rw[this,h,List.append_nil],fun h=>b9j this h⟩
 have h1:okC rd (S1 u)=true->L6 rd u=true∧(cS u).1=(S1 u).1:=fun h=>by
  unfold okC at h
  simp only[Bool.and_eq_true,Bool.not_eq_true',decide_eq_true_eq]at h
  obtain⟨⟨a1,a2⟩,a3⟩:=h
  have hc:=f8w a1
  obtain⟨s1,s2,_⟩:=a4e (a3g a3).1
  have e:=f8z hc s1 s2
  unfold L6
  rw[e]
  refine⟨?_,rfl⟩
  simp only[Bool.not_false,Bool.true_and,a3,decide_eq_true_eq]
  exact(key _ _ hc a3).1 a2
 have h2:L6 rd u=true->okC rd (S1 u)=true∧(cS u).1=(S1 u).1:=fun h=>by
  unfold L6 at h
  simp only[Bool.and_eq_true,Bool.not_eq_true',decide_eq_true_eq]at h
  obtain⟨a1,a2,a3⟩:=h
  obtain⟨s1,s2,_⟩:=a4e (a3g a2).1
  have hc:=f8y a1 (by omega) (by omega)
  have hl:=(key _ _ hc a2).2 a3
  have e:=f8x hc s1 s2
  unfold okC
  rw[e]
  exact⟨by simp[hl,a2],rfl⟩
 refine⟨?_,fun h=>(h2 h).2⟩
 rw[Bool.eq_iff_iff]
 exact⟨fun h=>(h1 h).1,fun h=>(h2 h).1⟩
theorem e7w(u:List UInt8):okS (T9 u)=N2 u∧(N2 u=true->(sS u).1=(T9 u).1):=by
 have key: ∀(c:s8)(l:List UInt8),ChS u c l->(l=[]↔H3 c=u):=fun c l hc=>by
  have:=e7u hc
  exact⟨fun h=>by rw[this,h,List.append_nil],fun h=>b9j this h⟩
 have h1:okS (T9 u)=true->N2 u=true∧(sS u).1=(T9 u).1:=fun h=>by
  unfold okS at h
  simp only[Bool.and_eq_true,Bool.not_eq_true',decide_eq_true_eq]at h
  obtain⟨⟨a1,a2⟩,a3⟩:=h
  have hc:=f6w a1
  obtain⟨s1,s2,_⟩:=a1k a3
  have e:=f9b hc s1 s2
  unfold N2
  rw[e]
  refine⟨?_,rfl⟩
  simp only[Bool.not_false,Bool.true_and,a3,decide_eq_true_eq]
  exact(key _ _ hc).1 a2
 have h2:N2 u=true->okS (T9 u)=true∧(sS u).1=(T9 u).1:=fun h=>by
  unfold N2 at h
  simp only[Bool.and_eq_true,Bool.not_eq_true',decide_eq_true_eq]at h
  obtain⟨a1,a2,a3⟩:=h
  obtain⟨s1,s2,_⟩:=a1k a2
  have hc:=f9a a1 (by omega) (by omega)
  have hl:=(key _ _ hc).2 a3
  have e:=f6x hc s1 s2
  unfold okS
  rw[e]
  exact⟨by simp[hl,a2],rfl⟩
 refine⟨?_,fun h=>(h2 h).2⟩
 rw[Bool.eq_iff_iff]
 exact⟨fun h=>(h1 h).1,fun h=>(h2 h).1⟩
def jS(rd:List UInt8->Bool)(s:List UInt8):C6×List UInt8×Bool:=
 let w:=nS (nS s false).2.1 (nS s false).2.2
 let n:=K5 w.2.1 w.2.2
 let m:=K5 n.2.1 n.2.2
 (⟨cT (L6 rd (nS s false).1) (cS (nS s false).1).1,sT (N2 w.1) (sS w.1).1,n.1,m.1⟩,m.2)
def a7w(rd:List UInt8->Bool)(s:List UInt8):Bool:=!(jS rd s).2.2&&(L6 rd (nS s false).1&&(N2 (nS (nS s false).2.1 (nS s false).2.2).1&&(y8 (q8 rd (jS rd s).1.Code) (jS rd s).1&&decide (b1c (jS rd s).1=s))))
def ChJ(s a w:List UInt8)(N M:List (List UInt8))(l:List UInt8):Prop:= ∃la lw ln,rdS s=some (a,la)∧rdS la=some (w,lw)∧ChL rdS lw N ln∧ChL rdS ln M l
theorem e7x{s a w l:List UInt8}{N M:List (List UInt8)}(h:ChJ s a w N M l):s=l9 a++l9 w++v5 N.length++N.flatMap l9++v5 M.length++M.flatMap l9++l:=by
 obtain⟨la,lw,ln,h1,h2,h3,h4⟩:=h
 have a1:=a6q (en:=l9) (fun l r x hx=>(J5 l x r hx).1) h3
 have a2:=a6q (en:=l9) (fun l r x hx=>(J5 l x r hx).1) h4
 rw[(J5 _ _ _ h1).1,(J5 _ _ _ h2).1,a1,a2]
 simp
theorem f2w{rd:List UInt8->Bool}{s:List UInt8}(h:okJ rd s=true): ∃a w N M l,ChJ s a w N M l∧N.length<=20∧M.length<=20:=by
 unfold okJ at h
 simp only[Bool.and_eq_true,Bool.not_eq_true',List.isEmpty_iff]at h
 obtain⟨⟨a1,_⟩,_⟩:=h
 obtain⟨b1,b2,b3⟩:=b9h G1 20 _ _ a1
 obtain⟨b4,b5,b6⟩:=b9h G1 20 _ _ b1
 obtain⟨b7,b8⟩:=G1.get _ _ b4
 obtain⟨_,b9⟩:=G1.get _ _ b7
 exact⟨_,_,_,_,_,⟨_,_,_,b9,b8,b5,b2⟩,b6,b3⟩
theorem e7y{rd:List UInt8->Bool}{s:List UInt8}(h:a7w rd s=true): ∃a w N M l,ChJ s a w N M l∧N.length<=20∧M.length<=20:=by
 unfold a7w at h
 simp only[Bool.and_eq_true,Bool.not_eq_true']at h
 obtain⟨a1,_,_,a2,_⟩:=h
 obtain⟨_,_,g3,g4,_⟩:=b2s a2
 have g3':(K5 (nS (nS s false).2.1 (nS s false).2.2).2.1 (nS (nS s false).2.1 (nS s false).2.2).2.2).1.length<=20:=g3
 have g4':(K5 (K5 (nS (nS s false).2.1 (nS s false).2.2).2.1 (nS (nS s false).2.1 (nS s false).2.2).2.2).2.1 (K5 (nS (nS s false).2.1 (nS s false).2.2).2.1 (nS (nS s false).2.1 (nS s false).2.2).2.2).2.2).1.length<=20:=g4
 obtain⟨b1,b2⟩:=c4p G1 50 _ _ a1 (Nat.lt_of_le_of_lt g4' (by omega))
 obtain⟨b4,b5⟩:=c4p G1 50 _ _ b1 (Nat.lt_of_le_of_lt g3' (by omega))
 obtain⟨b7,b8⟩:=G1.get _ _ b4
 obtain⟨_,b9⟩:=G1.get _ _ b7
 exact⟨_,_,_,_,_,⟨_,_,_,b9,b8,b5,b2⟩,g3',g4'⟩
theorem f2x(rd:List UInt8->Bool){s a w l:List UInt8}{N M:List (List UInt8)}(h:ChJ s a w N M l)(hN:N.length<=20)(hM:M.length<=20):
  okJ rd s=(l.isEmpty&&(okC rd (S1 a)&&(okS (T9 w)&&y8 (q8 rd (S1 a).1) ⟨(S1 a).1,(T9 w).1,N,M⟩)))∧(jI s).1=⟨(S1 a).1,(T9 w).1,N,M⟩∧
  a7w rd s=(L6 rd a&&(N2 w&&(y8 (q8 rd (cT (L6 rd a) (cS a).1)) ⟨cT (L6 rd a) (cS a).1,sT (N2 w) (sS w).1,N,M⟩&&decide (b1c ⟨cT (L6 rd a) (cS a).1,sT (N2 w) (sS w).1,N,M⟩=s))))∧(jS rd s).1=⟨cT (L6 rd a) (cS a).1,sT (N2 w) (sS w).1,N,M⟩:=by
 obtain⟨la,lw,ln,h1,h2,h3,h4⟩:=h
 have e1:=G1.yes _ _ _ h1
 have e2:=G1.yes _ _ _ h2
 have e3:ls1 lw false=(N,ln,false):=b9i G1 20 h3 hN
 have e4:ls1 ln false=(M,l,false):=b9i G1 20 h4 hM
 have e5:K5 lw false=(N,ln,false):=c4q G1 50 h3 (by omega)
 have e6:K5 ln false=(M,l,false):=c4q G1 50 h4 (by omega)
 have j1:jI s=(⟨(S1 a).1,(T9 w).1,N,M⟩,l,false):=by
  unfold jI
  rw[e1]
  simp only
  rw[e2]
  simp only
  rw[e3]
  simp only
  rw[e4]
 have j2:jS rd s=(⟨cT (L6 rd a) (cS a).1,sT (N2 w) (sS w).1,N,M⟩,l,false):=by
  unfold jS
  rw[e1]
  simp only
  rw[e2]
  simp only
  rw[e5]
  simp only
  rw[e6]
 refine⟨?_,by rw[j1],?_,by rw[j2]⟩
 ·unfold okJ
  rw[j1,e1]
  simp only
  rw[e2]
  simp
 ·unfold a7w
  rw[j2,e1]
  simp only
  rw[e2]
  simp
theorem e7z(rd:List UInt8->Bool)(s:List UInt8):okJ rd s=a7w rd s∧(a7w rd s=true->(jS rd s).1=(jI s).1):=by
 by_cases hex: ∃a w N M l,ChJ s a w N M l∧N.length<=20∧M.length<=20
 ·obtain⟨a,w,N,M,l,hc,hN,hM⟩:=hex
  obtain⟨k1,k2,k3,k4⟩:=f2x rd hc hN hM
  obtain⟨c1,c2⟩:=e7v rd a
  obtain⟨d1,d2⟩:=e7w w
  have he:=e7x hc
  rw[k1,k2,k3,k4,c1,d1]
  cases hC:L6 rd a with
  |false=>simp
  |true=>
   cases hS:N2 w with
   |false=>simp
   |true=>
    have t1:H2 (cS a).1=a:=by
     unfold L6 at hC
     simp only[Bool.and_eq_true,decide_eq_true_eq]at hC
     exact hC.2.2
    have t2:H3 (sS w).1=w:=by
     unfold N2 at hS
     simp only[Bool.and_eq_true,decide_eq_true_eq]at hS
     exact hS.2.2
    have u1:=c2 hC
    have u2:=d2 hS
    have v1:cT true (cS a).1=(S1 a).1:=u1
    have v2:sT true (sS w).1=(T9 w).1:=u2
    rw[v1,v2]
    have tj:b1c ⟨(S1 a).1,(T9 w).1,N,M⟩=l9 a++l9 w++v5 N.length++N.flatMap l9++v5 M.length++M.flatMap l9:=by
     unfold b1c
     rw[<-u1,<-u2,t1,t2]
    have hl:decide (b1c ⟨(S1 a).1,(T9 w).1,N,M⟩=s)=l.isEmpty:=by
     rw[tj]
     cases l with
     |nil=>rw[decide_eq_true];rfl;rw[he];simp
     |cons x l=>
      rw[decide_eq_false];rfl
      intro h
      have:=b9j he h
      cases this
    rw[hl]
    refine⟨?_,fun _=>rfl⟩
    cases l.isEmpty<;>simp
 ·have f1:okJ rd s=false:=by
   cases h:okJ rd s with
   |false=>rfl
   |true=>exact absurd (f2w h) hex
  have f2:a7w rd s=false:=by
   cases h:a7w rd s with
   |false=>rfl
   |true=>exact absurd (e7y h) hex
  rw[f1,f2]
  exact⟨rfl,fun h=>by cases h⟩
end
end Go.Vsi
