/- Plain laws on texts and numbers, and what the library does. -/
import Derived.Test.YtbjkeppbogdgcaaGreatZV2
namespace Go.Vsi
set_option linter.unusedSimpArgs false
set_option linter.unusedVariables false
def enc:Nat->Nat->List UInt8
 |0,n=>[UInt8.ofNat n]
 |f+1,n=>if n<=127 then[UInt8.ofNat n]else UInt8.ofNat (n%128+128)::enc f (n/128)
def v5(n:Nat):List UInt8:=enc 9 n
def vl:List UInt8->Nat
 |[]=>0
 |c::l=>c.toNat%128+128*vl l
def R8:List UInt8->Bool
 |[]=>false
 |[c]=>decide (c.toNat<=127)
 |c::d::l=>decide (127<c.toNat)&&R8 (d::l)&&decide (0<vl (d::l))
theorem b4l(c:UInt8):UInt8.ofNat c.toNat=c:=by simp
theorem a9a(n:Nat)(h:n<256):(UInt8.ofNat n).toNat=n:=by
 rw[UInt8.toNat_ofNat']
 exact Nat.mod_eq_of_lt h
theorem c3n: ∀(f:Nat)(l:List UInt8),l.length<=f+1->R8 l=true->enc f (vl l)=l
 |f,[],_,h=>by simp[R8]at h
 |f,[c],_,h=>by
  simp only[R8,decide_eq_true_eq]at h
  have e:vl [c]=c.toNat:=by simp only[vl];omega
  rw[e]
  cases f with
  |zero=>simp[enc]
  |succ f=>rw[enc,if_pos h,b4l]
 |0,c::d::l,hl,_=>by simp at hl
 |f+1,c::d::l,hl,h=>by
  simp only[R8,Bool.and_eq_true,decide_eq_true_eq]at h
  obtain⟨⟨h1,h2⟩,h3⟩:=h
  have ih:=c3n f (d::l) (by simp at hl⊢;omega) h2
  have hc:c.toNat<256:=c.toNat_lt
  have e1:vl (c::d::l)=c.toNat%128+128*vl (d::l):=rfl
  rw[e1]
  generalize vl (d::l)=v at ih h3⊢
  rw[enc,if_neg (by omega),show(c.toNat%128+128*v)/128=v by omega,ih,show(c.toNat%128+128*v)%128+128=c.toNat by omega,b4l]
theorem b5n: ∀(f n:Nat),n<128^(f+1)->R8 (enc f n)=true∧vl (enc f n)=n∧(enc f n).length<=f+1
 |0,n,h=>by
  have:n<128:=by simpa using h
  simp only[enc,R8,vl,a9a n (by omega),decide_eq_true_eq]
  exact⟨by omega,by omega,by simp⟩
 |f+1,n,h=>by
  rw[enc]
  split
  ·rename_i hn
   simp only[R8,vl,a9a n (by omega),decide_eq_true_eq]
   exact⟨hn,by omega,by simp⟩
  ·rename_i hn
   have hd:n/128<128^(f+1):=by
    rw[Nat.pow_succ]at h
    exact Nat.div_lt_of_lt_mul (by rw[Nat.mul_comm];exact h)
   obtain⟨g1,g2,g3⟩:=b5n f (n/128) hd
   have hb:(UInt8.ofNat (n%128+128)).toNat=n%128+128:=a9a _ (by omega)
   cases he:enc f (n/128)with
   |nil=>rw[he]at g1;simp[R8]at g1
   |cons d l=>
    rw[he]at g1 g2 g3
    refine⟨?_,?_,by simp at g3⊢;omega⟩
    ·simp only[R8,Bool.and_eq_true,decide_eq_true_eq]
     exact⟨⟨by omega,g1⟩,by omega⟩
    ·show(UInt8.ofNat (n%128+128)).toNat%128+128*vl (d::l)=n
     rw[hb,g2]
     omega
def hd:Nat->List UInt8->Option (List UInt8×List UInt8)
 |0,_=>none
 |_+1,[]=>none
 |f+1,c::l=>if c.toNat<=127 then some ([c],l)else match hd f l with|some (a,r)=>some (c::a,r)|none=>none
def rdV(l:List UInt8):Option (Nat×List UInt8):=match hd 5 l with
 |some (a,r)=>if R8 a=true∧vl a<=1000000000 then some (vl a,r)else none
 |none=>none
theorem a6f: ∀(f:Nat)(l a r:List UInt8),hd f l=some (a,r)->l=a++r∧a≠[]∧a.length<=f
 |0,_,_,_,h=>by simp[hd]at h
 |_+1,[],_,_,h=>by simp[hd]at h
 |f+1,c::l,a,r,h=>by
  rw[hd]at h
  split at h
  ·obtain⟨rfl,rfl⟩:=Prod.mk.inj (Option.some.inj h)
   simp
  ·split at h
   ·rename_i b s hb
    obtain⟨rfl,rfl⟩:=Prod.mk.inj (Option.some.inj h)
    obtain⟨h1,h2,h3⟩:=a6f f l b s hb
    rw[h1]
    simp
    omega
   ·cases h
theorem a7j(l r:List UInt8)(n:Nat)(h:rdV l=some (n,r)):l=v5 n++r∧n<=1000000000:=by
 unfold rdV at h
 split at h
 ·rename_i a s ha
  split at h
  ·rename_i hg
   obtain⟨rfl,rfl⟩:=Prod.mk.inj (Option.some.inj h)
   obtain⟨h1,h2,h3⟩:=a6f 5 l a s ha
   refine⟨?_,hg.2⟩
   rw[v5,c3n 9 a (by omega) hg.1]
   exact h1
  ·cases h
 ·cases h
end Go.Vsi
namespace Go.Vsi
set_option linter.unusedSimpArgs false
set_option linter.unusedVariables false
def l9(s:List UInt8):List UInt8:=v5 s.length++s
def rdS(l:List UInt8):Option (List UInt8×List UInt8):=match rdV l with
 |some (n,r)=>if n<=20000∧n<=r.length then some (r.take n,r.drop n)else none
 |none=>none
theorem J5(l s r:List UInt8)(h:rdS l=some (s,r)):l=l9 s++r∧s.length<=20000:=by
 unfold rdS at h
 split at h
 ·rename_i n q hq
  split at h
  ·rename_i hn
   obtain⟨rfl,rfl⟩:=Prod.mk.inj (Option.some.inj h)
   obtain⟨h1,h2⟩:=a7j l q n hq
   have hl:(q.take n).length=n:=by rw[List.length_take];omega
   refine⟨?_,by omega⟩
   unfold l9
   rw[hl,List.append_assoc,List.take_append_drop]
   exact h1
  ·cases h
 ·cases h
def rdI(l:List UInt8):Option ((UInt8×UInt8)×List UInt8):=match l with
 |a::b::r=>some ((a,b),r)
 |_=>none
def d9k(x:UInt8×UInt8):List UInt8:=[x.1,x.2]
theorem b5o(l r:List UInt8)(x:UInt8×UInt8)(h:rdI l=some (x,r)):l=d9k x++r:=by
 unfold rdI at h
 split at h
 ·obtain⟨rfl,rfl⟩:=Prod.mk.inj (Option.some.inj h)
  rfl
 ·cases h
def rdN{α:Type}(rd:List UInt8->Option (α×List UInt8)):Nat->List UInt8->Option (List α×List UInt8)
 |0,l=>some ([],l)
 |n+1,l=>match rd l with
  |none=>none
  |some (x,r)=>match rdN rd n r with
   |none=>none
   |some (xs,q)=>some (x::xs,q)
theorem c3o{α:Type}{rd:List UInt8->Option (α×List UInt8)}{en:α->List UInt8}(h: ∀l x r,rd l=some (x,r)->l=en x++r): ∀(n:Nat)(l:List UInt8)(xs:List α)(r:List UInt8),rdN rd n l=some (xs,r)->xs.length=n∧l=xs.flatMap en++r
 |0,l,xs,r,hl=>by
  obtain⟨rfl,rfl⟩:=Prod.mk.inj (Option.some.inj hl)
  simp
 |n+1,l,xs,r,hl=>by
  rw[rdN]at hl
  split at hl
  ·cases hl
  ·rename_i x q hx
   split at hl
   ·cases hl
   ·rename_i ys q2 hy
    obtain⟨rfl,rfl⟩:=Prod.mk.inj (Option.some.inj hl)
    obtain⟨h1,h2⟩:=c3o h n q ys q2 hy
    refine⟨by simp[h1],?_⟩
    rw[h l x q hx,h2]
    simp
theorem b8p{α:Type}{rd:List UInt8->Option (α×List UInt8)}: ∀(n:Nat)(l:List UInt8)(xs:List α)(r:List UInt8),rdN rd n l=some (xs,r)->xs.length=n
 |0,l,xs,r,hl=>by
  obtain⟨rfl,rfl⟩:=Prod.mk.inj (Option.some.inj hl)
  rfl
 |n+1,l,xs,r,hl=>by
  rw[rdN]at hl
  split at hl
  ·cases hl
  ·rename_i x q hx
   split at hl
   ·cases hl
   ·rename_i ys q2 hy
    obtain⟨rfl,rfl⟩:=Prod.mk.inj (Option.some.inj hl)
    simp[b8p n q ys q2 hy]
end Go.Vsi
