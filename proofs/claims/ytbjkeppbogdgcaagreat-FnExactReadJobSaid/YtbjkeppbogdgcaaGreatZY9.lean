/- What the functions of the program, of the reference and of the law do (a part of it). -/
import Derived.Test.YtbjkeppbogdgcaaGreatZY8
namespace Go.Vsi
open Go.Proofs
noncomputable section
set_option maxRecDepth 100000
set_option maxHeartbeats 4000000
set_option linter.unusedSimpArgs false
set_option linter.unusedVariables false
attribute [local go_sem ↓] v6
def zz:List UInt8->Bool
 |[]=>false
 |[c]=>decide (c.toNat=0)
 |_::d::l=>zz (d::l)
theorem b8q(c:UInt8)(a:List UInt8)(h:a≠[]):zz (c::a)=zz a:=by
 cases a with
 |nil=>exact absurd rfl h
 |cons d l=>rfl
theorem d5a: ∀(f:Nat)(l a r:List UInt8),hd f l=some (a,r)->zz a=false->0<vl a
 |0,_,_,_,h,_=>by simp[hd]at h
 |_+1,[],_,_,h,_=>by simp[hd]at h
 |f+1,c::l,a,r,h,hz=>by
  rw[hd]at h
  split at h
  ·obtain⟨rfl,rfl⟩:=Prod.mk.inj (Option.some.inj h)
   simp only[zz,decide_eq_false_iff_not]at hz
   simp only[vl]
   omega
  ·split at h
   ·rename_i b s hb
    obtain⟨rfl,rfl⟩:=Prod.mk.inj (Option.some.inj h)
    rw[b8q c b (a6f f l b s hb).2.1]at hz
    have:=d5a f l b s hb hz
    simp only[vl]
    omega
   ·cases h
theorem c7t: ∀(f:Nat)(l a r:List UInt8),hd f l=some (a,r)->R8 a=!(decide (1<a.length)&&zz a)
 |0,_,_,_,h=>by simp[hd]at h
 |_+1,[],_,_,h=>by simp[hd]at h
 |f+1,c::l,a,r,h=>by
  rw[hd]at h
  split at h
  ·rename_i hc
   obtain⟨rfl,rfl⟩:=Prod.mk.inj (Option.some.inj h)
   simp[R8,hc]
  ·rename_i hc
   split at h
   ·rename_i b s hb
    obtain⟨rfl,rfl⟩:=Prod.mk.inj (Option.some.inj h)
    obtain⟨h1,h2,h3⟩:=a6f f l b s hb
    have ih:=c7t f l b s hb
    have hp:=d5a f l b s hb
    rw[b8q c b h2]
    cases b with
    |nil=>exact absurd rfl h2
    |cons d m=>
     have hlen:1<(c::d::m).length:=by simp
     have h127:127<c.toNat:=by omega
     simp only[R8,hlen,h127,decide_true,Bool.true_and]
     cases hz:zz (d::m)with
     |false=>
      rw[ih,hz,decide_eq_true (hp hz)]
      simp
     |true=>
      rw[hz]at ih
      cases m with
      |nil=>
       have:d.toNat=0:=by simpa [zz]using hz
       have: ¬0<vl [d]:=by simp[vl,this]
       simp[this]
      |cons e m=>simp[ih]
   ·cases h
theorem c7u: ∀(f w n:Nat)(l:List UInt8),0<w->(N4 f w n l).join=(hd f l).bind fun x=>if((1<w∨1<x.1.length)∧zz x.1=true)∨1000000000<n+w*vl x.1 then none else some (n+w*vl x.1,x.2)
 |0,w,n,l,hw=>by simp[N4,hd]
 |f+1,w,n,[],hw=>by simp[N4,hd]
 |f+1,w,n,c::l,hw=>by
  rw[N4,hd]
  by_cases hc:127<c.toNat
  ·rw[if_pos hc,if_neg (by omega),c7u f (w*128) (n+w*(c.toNat%128)) l (by omega)]
   cases hh:hd f l with
   |none=>rfl
   |some x=>
    obtain⟨a,r⟩:=x
    have ha:=(a6f f l a r hh).2.1
    have hl:0<a.length:=List.length_pos_iff.2 ha
    show(if _ then _ else _)=(if _ then _ else _)
    have e1:n+w*(c.toNat%128)+w*128*vl a=n+w*vl (c::a):=by
     simp only[vl]
     rw[Nat.mul_add,<-Nat.mul_assoc]
     omega
    have e2:((1<w*128∨1<a.length)∧zz a=true)=((1<w∨1<(c::a).length)∧zz (c::a)=true):=by
     rw[b8q c a ha]
     have:1<w*128:=by omega
     have h2:1<(c::a).length:=by simp;omega
     simp only[this,h2,true_or,or_true,true_and]
    simp only[e1,e2]
  ·rw[if_neg hc,if_pos (show c.toNat<=127 by omega)]
   have e:c.toNat%128=vl [c]:=by simp only[vl];omega
   rw[e]
   show Option.join (if _ then _ else _)=(if _ then _ else _)
   have e2:(1<w∧c.toNat=0)=((1<w∨1<[c].length)∧zz [c]=true):=by simp[zz]
   simp only[e2]
   split<;>rfl
theorem e9t(l:List UInt8):(N4 5 1 0 l).join=rdV l:=by
 rw[c7u 5 1 0 l (by omega),rdV]
 cases hh:hd 5 l with
 |none=>rfl
 |some x=>
  obtain⟨a,r⟩:=x
  show(if _ then _ else _)=(if _ then _ else _)
  have hg:=c7t 5 l a r hh
  simp only[Nat.zero_add,Nat.one_mul,Nat.lt_irrefl,false_or]
  by_cases h1:1<a.length∧zz a=true
  ·have: ¬R8 a=true:=by rw[hg];simp[h1]
   rw[if_pos (Or.inl h1),if_neg (fun h=>this h.1)]
  ·have h2:R8 a=true:=by
    rw[hg]
    simp only[Bool.not_eq_true',Bool.and_eq_false_iff,decide_eq_false_iff_not]
    by_cases h:1<a.length
    ·exact Or.inr (by cases hz:zz a;rfl;exact absurd ⟨h,hz⟩ h1)
    ·exact Or.inl h
   by_cases h3:1000000000<vl a
   ·rw[if_pos (Or.inr h3),if_neg (fun h=>by omega)]
   ·rw[if_neg (fun h=>h.elim h1 h3),if_pos ⟨h2,by omega⟩]
theorem c7v: ∀(f w n:Nat)(p l:List UInt8),(L9 f w n p l).join=(hd f l).bind fun x=>if 1000000000<n+w*vl x.1∨ ¬v5 (n+w*vl x.1)=p++x.1 then none else some (n+w*vl x.1,x.2)
 |0,w,n,p,l=>by simp[L9,hd]
 |f+1,w,n,p,[]=>by simp[L9,hd]
 |f+1,w,n,p,c::l=>by
  rw[L9,hd]
  by_cases hc:127<c.toNat
  ·rw[if_pos hc,if_neg (by omega),c7v f (w*128) (n+w*(c.toNat%128)) (p++[c]) l]
   cases hh:hd f l with
   |none=>rfl
   |some x=>
    obtain⟨a,r⟩:=x
    show(if _ then _ else _)=(if _ then _ else _)
    have e1:n+w*(c.toNat%128)+w*128*vl a=n+w*vl (c::a):=by
     simp only[vl]
     rw[Nat.mul_add,<-Nat.mul_assoc]
     omega
    have e2:p++[c]++a=p++c::a:=by simp
    simp only[e1,e2]
  ·rw[if_neg hc,if_pos (show c.toNat<=127 by omega)]
   have e:c.toNat%128=vl [c]:=by simp only[vl];omega
   rw[e]
   show Option.join (if _ then _ else _)=(if _ then _ else _)
   split<;>rfl
theorem e9u(l:List UInt8):(L9 5 1 0 [] l).join=rdV l:=by
 rw[c7v 5 1 0 [] l,rdV]
 cases hh:hd 5 l with
 |none=>rfl
 |some x=>
  obtain⟨a,r⟩:=x
  have hl:=(a6f 5 l a r hh).2.2
  show(if _ then _ else _)=(if _ then _ else _)
  simp only[Nat.zero_add,Nat.one_mul,List.nil_append]
  by_cases h3:1000000000<vl a
  ·rw[if_pos (Or.inl h3),if_neg (fun h=>by omega)]
  ·by_cases h2:R8 a=true
   ·rw[if_neg (fun h=>h.elim h3 fun h=>h (c3n 9 a (by omega) h2)),if_pos ⟨h2,by omega⟩]
   ·have h4: ¬v5 (vl a)=a:=fun h=>h2 (by
     have:=(b5n 9 (vl a) (by omega)).1
     rwa[show enc 9 (vl a)=a from h]at this)
    rw[if_pos (Or.inr h4),if_neg (fun h=>h2 h.1)]
def rvW(s l:List UInt8):W:=match rdV l with
 |some (v,r)=>.tup [.c (.d (.v (.int .i64 ((v:Int))))),.c (.d (.v (.int .i64 ((s.length:Int)-(r.length:Int))))),.c (.d (.v (.bool (true))))]
 |none=>.tup [.c (.d (.v (.int .i64 (0)))),.c (.d (.v (.int .i64 (0)))),.c (.d (.v (.bool (false))))]
theorem d9l(a b c:Int):c6 Tryz.prog T1 L1 58 [.c (.d (.v (.int .i64 (a)))),.c (.d (.v (.int .i64 (b)))),.c (.d (.v (.int .i64 (c))))] []=some (.one (.c (.d (.v (.bool (decide (b<=a∧a<=c)))))),[]):=a4l (A7 a b c) rfl
theorem f8q(a b c:Int):c6 Tryz.prog T1 L1 55 [.c (.d (.v (.int .i64 (a)))),.c (.d (.v (.int .i64 (b)))),.c (.d (.v (.int .i64 (c))))] []=some (.one (.c (.d (.v (.bool (decide (b<=a∧a<=c)))))),[]):=a4l (a4i a b c) rfl
theorem c5x(s l:List UInt8)(a:Nat)(hm:s.length<=1000000000)(ha:a<=s.length)(hd:s.drop a=l):c6 Tryz.prog T1 L1 57 [.c (.d (.v (.string (B (s))))),.c (.d (.v (.int .i64 ((a:Int)))))] []=some (rvW s l,[]):=by
 have Lp:=f8j s l a 0 hm ha hd (by omega)
 have hw:=d9l (a:Int) 0 (s.length:Int)
 have hw2:decide ((0:Int)<=(a:Int)∧(a:Int)<=(s.length:Int))=true:=by simp;omega
 rw[hw2]at hw
 have e:=e9t l
 unfold rvW
 rw[<-e]
 have e0:((0:Nat):Int)=0:=rfl
 rw[e0]at Lp
 clear e hd hw2
 revert Lp
 cases N4 5 1 0 l with
 |none=>
  intro Lp
  simp only[Option.join_none]at Lp⊢
  exact fn W6 Tryz.func57
 |some x=>
  cases x with
  |none=>
   intro Lp
   simp only[Option.join_some]at Lp⊢
   exact fn W6 Tryz.func57
  |some x=>
   obtain⟨v,r⟩:=x
   intro Lp
   simp only[Option.join_some]at Lp⊢
   exact fn W6 Tryz.func57
theorem c5y(s l:List UInt8)(a:Nat)(hm:s.length<=1000000000)(ha:a<=s.length)(hd:s.drop a=l):c6 Tryz.prog T1 L1 32 [.c (.d (.v (.string (B (s))))),.c (.d (.v (.int .i64 ((a:Int)))))] []=some (rvW s l,[]):=by
 have Lp:=f8p s l [] a 0 hm ha hd (by simp) (by omega)
 have hw:=f8q (a:Int) 0 (s.length:Int)
 have hw2:decide ((0:Int)<=(a:Int)∧(a:Int)<=(s.length:Int))=true:=by simp;omega
 rw[hw2]at hw
 have e:=e9u l
 unfold rvW
 rw[<-e]
 have e0:((0:Nat):Int)=0:=rfl
 rw[e0,Int.add_zero]at Lp
 clear e hd hw2
 revert Lp
 cases L9 5 1 0 [] l with
 |none=>
  intro Lp
  simp only[Option.join_none]at Lp⊢
  exact fn T7 Tryz.func32
 |some x=>
  cases x with
  |none=>
   intro Lp
   simp only[Option.join_some]at Lp⊢
   exact fn T7 Tryz.func32
  |some x=>
   obtain⟨v,r⟩:=x
   intro Lp
   simp only[Option.join_some]at Lp⊢
   exact fn T7 Tryz.func32
def rsW(s l:List UInt8):W:=match rdS l with
 |some (v,r)=>.tup [.c (.d (.v (.string (B (v))))),.c (.d (.v (.int .i64 ((s.length:Int)-(r.length:Int))))),.c (.d (.v (.bool (true))))]
 |none=>.tup [.c (.d (.v (.string (B ([]))))),.c (.d (.v (.int .i64 (0)))),.c (.d (.v (.bool (false))))]
end
end Go.Vsi
namespace Go.Vsi
open Go.Proofs
noncomputable section
set_option maxRecDepth 100000
set_option maxHeartbeats 4000000
set_option linter.unusedSimpArgs false
set_option linter.unusedVariables false
attribute [local go_sem ↓] v6
theorem U8{s l:List UInt8}(h:l<:+s):s.drop (s.length-l.length)=l:=by
 obtain⟨p,rfl⟩:=h
 simp
theorem N7{s l:List UInt8}(h:l<:+s):l.length<=s.length:=h.length_le
theorem b4n(s l:List UInt8)(hm:s.length<=1000000000)(hs:l<:+s):c6 Tryz.prog T1 L1 57 [.c (.d (.v (.string (B (s))))),.c (.d (.v (.int .i64 ((s.length:Int)-(l.length:Int)))))] []=some (rvW s l,[]):=by
 have h1:=N7 hs
 have h:=c5x s l (s.length-l.length) hm (by omega) (U8 hs)
 rwa[show((s.length-l.length:Nat):Int)=(s.length:Int)-(l.length:Int) by omega]at h
theorem b4o(s l:List UInt8)(hm:s.length<=1000000000)(hs:l<:+s):c6 Tryz.prog T1 L1 32 [.c (.d (.v (.string (B (s))))),.c (.d (.v (.int .i64 ((s.length:Int)-(l.length:Int)))))] []=some (rvW s l,[]):=by
 have h1:=N7 hs
 have h:=c5y s l (s.length-l.length) hm (by omega) (U8 hs)
 rwa[show((s.length-l.length:Nat):Int)=(s.length:Int)-(l.length:Int) by omega]at h
theorem b3i{l r:List UInt8}{v:Nat}(h:rdV l=some (v,r)):r<:+l∧v<=1000000000:=by
 obtain⟨h1,h2⟩:=a7j l r v h
 exact⟨⟨v5 v,h1.symm⟩,h2⟩
theorem e4r{l r v:List UInt8}(h:rdS l=some (v,r)):r<:+l:=by
 obtain⟨h1,h2⟩:=J5 l v r h
 exact⟨l9 v,h1.symm⟩
theorem c1l(s l:List UInt8)(hm:s.length<=1000000000)(hs:l<:+s):c6 Tryz.prog T1 L1 40 [.c (.d (.v (.string (B (s))))),.c (.d (.v (.int .i64 ((s.length:Int)-(l.length:Int)))))] []=some (rsW s l,[]):=by
 have hv:=b4n s l hm hs
 have h1:=N7 hs
 unfold rsW rdS
 unfold rvW at hv
 cases hr:rdV l with
 |none=>
  simp only[hr]at hv⊢
  clear hr hs
  exact fn V40 Tryz.func40
 |some x=>
  obtain⟨v,r⟩:=x
  obtain⟨g1,g2⟩:=b3i hr
  have g3:=N7 g1
  simp only[hr]at hv⊢
  clear hr
  by_cases hc:v<=20000∧v<=r.length
  ·have hsl:(s.drop ((s.length:Int)-(r.length:Int)).toNat).take (((s.length:Int)-(r.length:Int)+(v:Int)).toNat-((s.length:Int)-(r.length:Int)).toNat)=r.take v:=by
    rw[show((s.length:Int)-(r.length:Int)+(v:Int)).toNat-((s.length:Int)-(r.length:Int)).toNat=v by omega,show((s.length:Int)-(r.length:Int)).toNat=s.length-r.length by omega,U8 (g1.trans hs)]
   have hn:(s.length:Int)-((r.drop v).length:Int)=(s.length:Int)-(r.length:Int)+(v:Int):=by
    rw[List.length_drop];omega
   have hsum:(s.length:Int)-((s.length:Int)-(r.length:Int))=(r.length:Int):=by omega
   have hk:v<=r.length∧v<=20000:=⟨hc.2,hc.1⟩
   simp only[if_pos hc,hn]
   generalize r.take v=E at hsl⊢
   clear hs g1 hc hn
   exact fn V40 Tryz.func40
  ·simp only[if_neg hc]
   have hsum:(s.length:Int)-((s.length:Int)-(r.length:Int))=(r.length:Int):=by omega
   clear hs g1
   by_cases h2:v<=20000
   ·have h3: ¬v<=r.length:=fun h=>hc ⟨h2,h⟩
    clear hc
    exact fn V40 Tryz.func40
   ·clear hc
    exact fn V40 Tryz.func40
theorem c1m(s l:List UInt8)(hm:s.length<=1000000000)(hs:l<:+s):c6 Tryz.prog T1 L1 30 [.c (.d (.v (.string (B (s))))),.c (.d (.v (.int .i64 ((s.length:Int)-(l.length:Int)))))] []=some (rsW s l,[]):=by
 have hv:=b4o s l hm hs
 have h1:=N7 hs
 unfold rsW rdS
 unfold rvW at hv
 cases hr:rdV l with
 |none=>
  simp only[hr]at hv⊢
  clear hr hs
  exact fn V30 Tryz.func30
 |some x=>
  obtain⟨v,r⟩:=x
  obtain⟨g1,g2⟩:=b3i hr
  have g3:=N7 g1
  simp only[hr]at hv⊢
  clear hr
  by_cases hc:v<=20000∧v<=r.length
  ·have hsl:(s.drop ((s.length:Int)-(r.length:Int)).toNat).take (((s.length:Int)-(r.length:Int)+(v:Int)).toNat-((s.length:Int)-(r.length:Int)).toNat)=r.take v:=by
    rw[show((s.length:Int)-(r.length:Int)+(v:Int)).toNat-((s.length:Int)-(r.length:Int)).toNat=v by omega,show((s.length:Int)-(r.length:Int)).toNat=s.length-r.length by omega,U8 (g1.trans hs)]
   have hn:(s.length:Int)-((r.drop v).length:Int)=(s.length:Int)-(r.length:Int)+(v:Int):=by
    rw[List.length_drop];omega
   have hsum:(s.length:Int)-((s.length:Int)-(r.length:Int))=(r.length:Int):=by omega
   have hk:v<=r.length∧v<=20000:=⟨hc.2,hc.1⟩
   simp only[if_pos hc,hn]
   generalize r.take v=E at hsl⊢
   clear hs g1 hc hn
   exact fn V30 Tryz.func30
  ·simp only[if_neg hc]
   have hsum:(s.length:Int)-((s.length:Int)-(r.length:Int))=(r.length:Int):=by omega
   clear hs g1
   by_cases h2:v<=20000
   ·have h3: ¬v<=r.length:=fun h=>hc ⟨h2,h⟩
    clear hc
    exact fn V30 Tryz.func30
   ·clear hc
    exact fn V30 Tryz.func30
def rB(s l:List UInt8)(b:Bool):k7:=.var [.d (.v (.string (B (s)))),.d (.v (.int .i64 ((s.length:Int)-(l.length:Int)))),.d (.v (.bool (b)))]
def nV(l:List UInt8)(b:Bool):Nat×List UInt8×Bool:=match b,rdV l with
 |false,some (v,r)=>(v,r,false)
 |_,_=>(0,l,true)
def nS(l:List UInt8)(b:Bool):List UInt8×List UInt8×Bool:=match b,rdS l with
 |false,some (v,r)=>(v,r,false)
 |_,_=>([],l,true)
def nO(l:List UInt8)(b:Bool):Nat×List UInt8×Bool:=match b,l with
 |false,c::r=>(c.toNat,r,false)
 |_,_=>(0,l,true)
def nC(m:Nat)(l:List UInt8)(b:Bool):Nat×List UInt8×Bool:=if m<(nV l b).1 then(0,(nV l b).2.1,true)else nV l b
theorem J0{s l:List UInt8}(b:Bool)(h:l<:+s):(nV l b).2.1<:+s:=by
 unfold nV
 split
 ·rename_i v r hr
  exact(b3i hr).1.trans h
 ·exact h
theorem a8r(l:List UInt8)(b:Bool):(nV l b).1<=1000000000:=by
 unfold nV
 split
 ·rename_i v r hr
  exact(b3i hr).2
 ·simp
theorem n7{s l:List UInt8}(b:Bool)(h:l<:+s):(nS l b).2.1<:+s:=by
 unfold nS
 split
 ·rename_i v r hr
  exact(e4r hr).trans h
 ·exact h
theorem I7{s l:List UInt8}(b:Bool):(nS l b).1.length<=20000:=by
 unfold nS
 split
 ·rename_i v r hr
  exact(J5 _ _ _ hr).2
 ·simp
theorem a1i{s l:List UInt8}(b:Bool)(h:l<:+s):(nO l b).2.1<:+s:=by
 unfold nO
 split
 ·exact(List.suffix_cons _ _).trans h
 ·exact h
theorem a5c{s l:List UInt8}(m:Nat)(b:Bool)(h:l<:+s):(nC m l b).2.1<:+s:=by
 unfold nC
 split
 ·exact J0 b h
 ·exact J0 b h
theorem a0l(m:Nat)(l:List UInt8)(b:Bool):(nC m l b).1<=m:=by
 unfold nC
 split
 ·simp
 ·omega
theorem Q8(s l:List UInt8)(b:Bool)(hm:s.length<=1000000000)(hs:l<:+s):c6 Tryz.prog T1 L1 38 [.c (.ptr 0 0 0)] [some (rB s l b)]=some (.one (.c (.d (.v (.int .i64 (((nV l b).1:Int)))))),[some (rB s (nV l b).2.1 (nV l b).2.2)]):=by
 have hv:=b4n s l hm hs
 unfold nV rB
 unfold rvW at hv
 cases hr:rdV l with
 |none=>
  simp only[hr]at hv⊢
  clear hr hs
  cases b
  ·
   exact fn V38 Tryz.func38
  ·
   exact fn V38 Tryz.func38
 |some x=>
  obtain⟨v,r⟩:=x
  simp only[hr]at hv⊢
  clear hr hs
  cases b
  ·
   exact fn V38 Tryz.func38
  ·
   exact fn V38 Tryz.func38
theorem T8(s l:List UInt8)(b:Bool)(hm:s.length<=1000000000)(hs:l<:+s):c6 Tryz.prog T1 L1 12 [.c (.ptr 0 0 0)] [some (rB s l b)]=some (.one (.c (.d (.v (.int .i64 (((nV l b).1:Int)))))),[some (rB s (nV l b).2.1 (nV l b).2.2)]):=by
 have hv:=b4o s l hm hs
 unfold nV rB
 unfold rvW at hv
 cases hr:rdV l with
 |none=>
  simp only[hr]at hv⊢
  clear hr hs
  cases b
  ·
   exact fn V12 Tryz.func12
  ·
   exact fn V12 Tryz.func12
 |some x=>
  obtain⟨v,r⟩:=x
  simp only[hr]at hv⊢
  clear hr hs
  cases b
  ·
   exact fn V12 Tryz.func12
  ·
   exact fn V12 Tryz.func12
theorem w7(s l:List UInt8)(b:Bool)(hm:s.length<=1000000000)(hs:l<:+s):c6 Tryz.prog T1 L1 15 [.c (.ptr 0 0 0)] [some (rB s l b)]=some (.one (.c (.d (.v (.string (B ((nS l b).1)))))),[some (rB s (nS l b).2.1 (nS l b).2.2)]):=by
 have hv:=c1l s l hm hs
 unfold nS rB
 unfold rsW at hv
 cases hr:rdS l with
 |none=>
  simp only[hr]at hv⊢
  clear hr hs
  cases b
  ·
   exact fn V15 Tryz.func15
  ·
   exact fn V15 Tryz.func15
 |some x=>
  obtain⟨v,r⟩:=x
  simp only[hr]at hv⊢
  clear hr hs
  cases b
  ·
   exact fn V15 Tryz.func15
  ·
   exact fn V15 Tryz.func15
theorem k9(s l:List UInt8)(b:Bool)(hm:s.length<=1000000000)(hs:l<:+s):c6 Tryz.prog T1 L1 10 [.c (.ptr 0 0 0)] [some (rB s l b)]=some (.one (.c (.d (.v (.string (B ((nS l b).1)))))),[some (rB s (nS l b).2.1 (nS l b).2.2)]):=by
 have hv:=c1m s l hm hs
 unfold nS rB
 unfold rsW at hv
 cases hr:rdS l with
 |none=>
  simp only[hr]at hv⊢
  clear hr hs
  cases b
  ·
   exact fn V10 Tryz.func10
  ·
   exact fn V10 Tryz.func10
 |some x=>
  obtain⟨v,r⟩:=x
  simp only[hr]at hv⊢
  clear hr hs
  cases b
  ·
   exact fn V10 Tryz.func10
  ·
   exact fn V10 Tryz.func10
theorem a5d(s l:List UInt8)(b:Bool)(hm:s.length<=1000000000)(hs:l<:+s):c6 Tryz.prog T1 L1 37 [.c (.ptr 0 0 0)] [some (rB s l b)]=some (.one (.c (.d (.v (.int .i64 (((nO l b).1:Int)))))),[some (rB s (nO l b).2.1 (nO l b).2.2)]):=by
 have h1:=N7 hs
 unfold nO rB
 cases b with
 |true=>
  clear hs
  simp only
  exact fn V37 Tryz.func37
 |false=>
  cases l with
  |nil=>
   clear hs
   have e0:(s.length:Int)-((([]:List UInt8).length:Nat):Int)=(s.length:Int):=by simp
   simp only[e0]
   exact fn V37 Tryz.func37
  |cons c r=>
   have hd:=U8 hs
   have h2:s.length-(c::r).length<s.length:=by rw[List.length_cons]at h1⊢;omega
   have hc: ∀h:((s.length:Int)-((r.length+1:Nat):Int)).toNat<s.length,s[((s.length:Int)-((r.length+1:Nat):Int)).toNat]'h=c:=fun h=>by
    have e:((s.length:Int)-((r.length+1:Nat):Int)).toNat=s.length-(c::r).length:=by rw[List.length_cons];omega
    have h3:s[s.length-(c::r).length]?=some c:=by rw[<-List.head?_drop,hd];rfl
    have h4:s[((s.length:Int)-((r.length+1:Nat):Int)).toNat]?=some c:=by rw[e];exact h3
    exact(List.getElem?_eq_some_iff.1 h4).2
   have hb:c.toNat<256:=c.toNat_lt
   have e1:(s.length:Int)-((r.length+1:Nat):Int)+1=(s.length:Int)-(r.length:Int):=by omega
   have e2:(s.length:Int)-(r.length:Int)-1=(s.length:Int)-((r.length+1:Nat):Int):=by omega
   simp only[List.length_cons]at h1⊢
   clear hs hd h2
   exact fn V37 Tryz.func37
theorem a1z(s l:List UInt8)(b:Bool)(m:Nat)(hmm:m<=10000)(hm:s.length<=1000000000)(hs:l<:+s):c6 Tryz.prog T1 L1 36 [.c (.ptr 0 0 0),.c (.d (.v (.int .i64 ((m:Int)))))] [some (rB s l b)]=some (.one (.c (.d (.v (.int .i64 (((nC m l b).1:Int)))))),[some (rB s (nC m l b).2.1 (nC m l b).2.2)]):=by
 have hv:=Q8 s l b hm hs
 have hl:=a8r l b
 unfold nC
 generalize nV l b=x at hv hl⊢
 obtain⟨v,r,b2⟩:=x
 simp only at hv hl⊢
 unfold rB at hv⊢
 clear hs
 by_cases h:m<v
 ·simp only[if_pos h]
  exact fn V36 Tryz.func36
 ·simp only[if_neg h]
  exact fn V36 Tryz.func36
theorem a0m(s l:List UInt8)(b:Bool)(hm:s.length<=1000000000)(hs:l<:+s):c6 Tryz.prog T1 L1 18 [.c (.ptr 0 0 0)] [some (rB s l b)]=some (.one (.c (.d (.v (.bool (!b&&decide (l=[])))))),[some (rB s l b)]):=by
 have h1:=N7 hs
 have e:f8 ((s.length:Int)-(l.length:Int)) (s.length:Int)=decide (l=[]):=by
  cases l with
  |nil=>simp[f8]
  |cons c r=>simp[f8];omega
 unfold rB
 clear hs
 cases b
 ·generalize decide (l=[])=q at e⊢
  cases q
  ·
   exact fn V18 Tryz.func18
  ·
   exact fn V18 Tryz.func18
 ·simp only[Bool.not_true,Bool.false_and]
  exact fn V18 Tryz.func18
end
end Go.Vsi
