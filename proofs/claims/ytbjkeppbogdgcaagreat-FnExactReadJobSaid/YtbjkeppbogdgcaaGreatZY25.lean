/- What the functions of the program, of the reference and of the law do (a part of it). -/
import Derived.Test.YtbjkeppbogdgcaaGreatZY22
import Derived.Test.YtbjkeppbogdgcaaGreatZY23
namespace Go.Vsi
open Go.Proofs
noncomputable section
set_option maxRecDepth 100000
set_option maxHeartbeats 4000000
set_option linter.unusedSimpArgs false
set_option linter.unusedVariables false
attribute [local go_sem ↓] v6
def D4(g:Nat->Bool):Nat->Nat->Bool
 |_,0=>true
 |k,m+1=>g k&&D4 g (k+1) m
theorem P0{α:Type}(LP:Int->α)(E R:α)(g:Nat->Bool)(n:Nat)(he:LP (n:Int)=E)(hs: ∀k:Nat,k<n->LP (k:Int)=if g k=true then LP ((k:Int)+1)else R): ∀m k:Nat,k+m=n->LP (k:Int)=if D4 g k m=true then E else R
 |0,k,h=>by
  have:k=n:=by omega
  subst this
  exact he
 |m+1,k,h=>by
  rw[hs k (by omega),D4]
  cases hg:g k with
  |false=>rfl
  |true=>
   rw[if_pos rfl,Bool.true_and,<-P0 LP E R g n he hs m (k+1) (by omega),show((k+1:Nat):Int)=(k:Int)+1 by omega]
theorem b3m(xs:List (List UInt8))(k:Nat)(h:k<xs.length):(rS xs)[k]?=some [.v (.string (B (xs.getD k [])))]:=by
 unfold rS
 rw[List.getElem?_map,List.getElem?_eq_getElem h,List.getD_eq_getElem?_getD,List.getElem?_eq_getElem h];rfl
theorem b3n(xs:List v9)(k:Nat)(h:k<xs.length):(rV xs)[k]?=some [.v (.string (B ((xs.getD k ⟨[],[]⟩).Name))),.v (.string (B ((xs.getD k ⟨[],[]⟩).Val)))]:=by
 unfold rV
 rw[List.getElem?_map,List.getElem?_eq_getElem h,List.getD_eq_getElem?_getD,List.getElem?_eq_getElem h];rfl
theorem b3o(xs:List q9)(k:Nat)(h:k<xs.length):(rC xs)[k]?=some [.v (.string (B ((xs.getD k ⟨[],[],[]⟩).Name))),.v (.string (B ((xs.getD k ⟨[],[],[]⟩).Key))),.v (.string (B ((xs.getD k ⟨[],[],[]⟩).Val)))]:=by
 unfold rC
 rw[List.getElem?_map,List.getElem?_eq_getElem h,List.getD_eq_getElem?_getD,List.getElem?_eq_getElem h];rfl
theorem L5{α:Type}(xs:List α)(k:Nat)(d:α)(h:k<xs.length):xs.getD k d∈xs:=by
 rw[List.getD_eq_getElem?_getD,List.getElem?_eq_getElem h]
 exact List.getElem_mem _
theorem b7u(a b:List UInt8):c6 Tryz.prog T1 L1 73 [.c (.d (.v (.string (B (a))))),.c (.d (.v (.string (B (b)))))] []=some (.one (.c (.d (.v (.int .i64 (Go.Lib.compareBytes a b))))),[]):=by
 have h:c6 Tryz.prog T1 L1 81 [.c (.d (.v (.string (B (a))))),.c (.d (.v (.string (B (b)))))] []=some (.one (.c (.d (.v (.int .i64 (Go.Lib.compareBytes a b))))),[]):=a4l (c5p a b) rfl
 exact fn V73 Tryz.func73
def d1v(x y:q9):Int:=if x.Name=y.Name then Go.Lib.compareBytes x.Key y.Key else Go.Lib.compareBytes x.Name y.Name
def b7v(x y:q9):Bool:=Op.bytesLess x.Name y.Name||(decide (x.Name=y.Name)&&Op.bytesLess x.Key y.Key)
theorem d9v(x y:q9):c6 Tryz.prog T1 L1 60 [.agg [.d (.v (.string (B (x.Name)))),.d (.v (.string (B (x.Key)))),.d (.v (.string (B (x.Val))))],.agg [.d (.v (.string (B (y.Name)))),.d (.v (.string (B (y.Key)))),.d (.v (.string (B (y.Val))))]] []=some (.one (.c (.d (.v (.int .i64 (d1v x y))))),[]):=by
 have h1:=b7u x.Name y.Name
 have h2:=b7u x.Key y.Key
 unfold d1v
 by_cases e:x.Name=y.Name
 ·rw[if_pos e]
  rw[e]at h1⊢
  clear e
  exact fn V60 Tryz.func60
 ·rw[if_neg e]
  exact fn V60 Tryz.func60
theorem d9w(x y:q9):c6 Tryz.prog T1 L1 66 [.agg [.d (.v (.string (B (x.Name)))),.d (.v (.string (B (x.Key)))),.d (.v (.string (B (x.Val))))],.agg [.d (.v (.string (B (y.Name)))),.d (.v (.string (B (y.Key)))),.d (.v (.string (B (y.Val))))]] []=some (.one (.c (.d (.v (.bool (b7v x y))))),[]):=by
 unfold b7v
 by_cases e:x.Name=y.Name
 ·rw[decide_eq_true e]
  rw[e]
  clear e
  cases h1:Op.bytesLess y.Name y.Name<;>cases h2:Op.bytesLess x.Key y.Key
  all_goals
   exact fn V66 Tryz.func66
 ·rw[decide_eq_false e]
  cases h1:Op.bytesLess x.Name y.Name
  all_goals
   exact fn V66 Tryz.func66
theorem b1b: ∀(a b:List UInt8),(Go.Lib.compareBytes a b<0↔Op.bytesLess a b=true)∧(Go.Lib.compareBytes a b=0->a=b)
 |[],[]=>by simp[Go.Lib.compareBytes,Op.bytesLess]
 |[],_::_=>by simp[Go.Lib.compareBytes,Op.bytesLess]
 |_::_,[]=>by simp[Go.Lib.compareBytes,Op.bytesLess]
 |a::l,b::m=>by
  obtain⟨h1,h2⟩:=b1b l m
  unfold Go.Lib.compareBytes Op.bytesLess
  by_cases c1:a<b
  ·simp[c1]
  ·by_cases c2:b<a
   ·have c3: ¬a=b:=fun h=>by subst h;exact c1 c2
    simp[c1,c2,c3]
   ·have c3:a=b:=UInt8.le_antisymm (UInt8.not_lt.1 c2) (UInt8.not_lt.1 c1)
    subst c3
    simp only[c1,if_false,decide_false,beq_self_eq_true,Bool.true_and,Bool.false_or]
    exact⟨h1,fun h=>by rw[h2 h]⟩
theorem d1w(x y:q9):decide (0<=d1v x y)=!b7v x y:=by
 unfold d1v b7v
 by_cases e:x.Name=y.Name
 ·rw[if_pos e,decide_eq_true e,e]
  have h:=(b1b x.Key y.Key).1
  have h0:Op.bytesLess y.Name y.Name=false:=by
   have:=(b1b y.Name y.Name).1
   have h3: ∀l:List UInt8,Go.Lib.compareBytes l l=0:=fun l=>by
    induction l with
    |nil=>rfl
    |cons c l ih=>simp[Go.Lib.compareBytes,ih]
   rw[h3]at this
   cases hb:Op.bytesLess y.Name y.Name with
   |false=>rfl
   |true=>exact absurd (this.2 hb) (by omega)
  rw[h0,Bool.false_or,Bool.true_and]
  cases hb:Op.bytesLess x.Key y.Key with
  |false=>
   rw[hb]at h
   have: ¬Go.Lib.compareBytes x.Key y.Key<0:=fun hh=>by simp[hh]at h
   simp;omega
  |true=>
   have:=h.2 hb
   simp;omega
 ·rw[if_neg e,decide_eq_false e]
  have h:=(b1b x.Name y.Name).1
  cases hb:Op.bytesLess x.Name y.Name with
  |false=>
   rw[hb]at h
   have: ¬Go.Lib.compareBytes x.Name y.Name<0:=fun hh=>by simp[hh]at h
   simp;omega
  |true=>
   have:=h.2 hb
   simp;omega
def vG(xs:List v9)(k:Nat):v9:=xs.getD k ⟨[],[]⟩
def cG(xs:List q9)(k:Nat):q9:=xs.getD k ⟨[],[],[]⟩
def f6i(xs:List v9):Nat->Bool
 |0=>true
 |k+1=>Op.bytesLess (vG xs k).Name (vG xs (k+1)).Name
def f6j(xs:List q9):Nat->Bool
 |0=>true
 |k+1=>b7v (cG xs k) (cG xs (k+1))
def gT(m:Nat)(xs:List (List UInt8))(k:Nat):Bool:=decide ((xs.getD k []).length<=m)
def gN(xs:List (List UInt8))(k:Nat):Bool:=nmB (xs.getD k [])
def gI(xs:List i6)(k:Nat):Bool:=b8r (xs.getD k ⟨0,0⟩)
def gV(xs:List v9)(k:Nat):Bool:=nmB (vG xs k).Name&&decide ((vG xs k).Val.length<=40)&&f6i xs k
def gC(xs:List q9)(k:Nat):Bool:=nmB (cG xs k).Name&&decide ((cG xs k).Key.length<=40)&&decide ((cG xs k).Val.length<=40)&&f6j xs k
theorem mx(n:Nat)(h:n<=9000000000):n<=maxLen:=by
 have:maxLen=9223372036854775807:=rfl
 omega
theorem d5r(cb cl ce:Int)(so:List UInt8)(j1 j2 j3 j4 d:D)(p:Bool)(xs:List (List UInt8))(hl:xs.length<=1000000)(hb: ∀x∈xs,x.length<=9000000000):a6h cb cl ce d (c8 p 1 (rS xs)) 0 (xs.length:Int)=if D4 (gT 30 xs) 0 xs.length=true then b8t cb cl ce d (c8 p 1 (rS xs))else c7y cb cl ce d (c8 p 1 (rS xs)):=by
 by_cases hx:xs=[]
 ·subst hx
  cases p
  ·exact c0r cb cl ce so j1 j2 j3 j4 d [] 0 (by simp)
  ·exact d5i cb cl ce so j1 j2 j3 j4 d
 ·rw[o7 p 1 (rS xs) (fun h=>hx (by
   have:=congrArg List.length h
   rw[i7]at this
   exact List.length_eq_zero_iff.1 this))]
  refine P0 (fun i=>a6h cb cl ce d (.sl 1 (rS xs)) i (xs.length:Int)) _ _ (gT 30 xs) xs.length ?_ (fun k hk=>?_) xs.length 0 (by omega)
  ·exact c0r cb cl ce so j1 j2 j3 j4 d (rS xs) (xs.length:Int) (by omega)
  ·exact e4z cb cl ce so j1 j2 j3 j4 d (xs.getD k []) (rS xs) (k:Int) (xs.length:Int) ⟨by omega,by omega,(by omega)⟩ (b3m xs k hk) (hb _ (L5 xs k _ hk))
theorem d5s(cb cl ce:Int)(so:List UInt8)(j1 j2 j3 j4 d:D)(p:Bool)(xs:List (List UInt8))(hl:xs.length<=1000000)(hb: ∀x∈xs,x.length<=9000000000):a6i cb cl ce d (c8 p 1 (rS xs)) 0=if D4 (gT 30 xs) 0 xs.length=true then b8u cb cl ce d (c8 p 1 (rS xs))else c7z cb cl ce d (c8 p 1 (rS xs)):=by
 by_cases hx:xs=[]
 ·subst hx
  cases p
  ·exact c0s cb cl ce so j1 j2 j3 j4 d [] (by simp)
  ·exact d5j cb cl ce so j1 j2 j3 j4 d
 ·rw[o7 p 1 (rS xs) (fun h=>hx (by
   have:=congrArg List.length h
   rw[i7]at this
   exact List.length_eq_zero_iff.1 this))]
  refine P0 (fun i=>a6i cb cl ce d (.sl 1 (rS xs)) i) _ _ (gT 30 xs) xs.length ?_ (fun k hk=>?_) xs.length 0 (by omega)
  ·have h:=c0s cb cl ce so j1 j2 j3 j4 d (rS xs) (by rw[i7];exact hl);rw[i7]at h;exact h
  ·exact e5a cb cl ce so j1 j2 j3 j4 d (xs.getD k []) (rS xs) (k:Int) ⟨by omega,by rw[i7];omega,(by rw[i7];exact hl)⟩ (b3m xs k hk) (hb _ (L5 xs k _ hk))
theorem d5t(cb cl ce:Int)(so:List UInt8)(j1 j2 j3 j4 d:D)(p:Bool)(xs:List (i6))(hl:xs.length<=1000000)(hb: ∀x∈xs,True):a6j cb cl ce d (c8 p 2 (g9 xs)) 0 (xs.length:Int)=if D4 (gI xs) 0 xs.length=true then b8v cb cl ce d (c8 p 2 (g9 xs))else c8a cb cl ce d (c8 p 2 (g9 xs)):=by
 by_cases hx:xs=[]
 ·subst hx
  cases p
  ·exact c0t cb cl ce so j1 j2 j3 j4 d [] 0 (by simp)
  ·exact d5k cb cl ce so j1 j2 j3 j4 d
 ·rw[o7 p 2 (g9 xs) (fun h=>hx (by
   have:=congrArg List.length h
   rw[k8]at this
   exact List.length_eq_zero_iff.1 this))]
  refine P0 (fun i=>a6j cb cl ce d (.sl 2 (g9 xs)) i (xs.length:Int)) _ _ (gI xs) xs.length ?_ (fun k hk=>?_) xs.length 0 (by omega)
  ·exact c0t cb cl ce so j1 j2 j3 j4 d (g9 xs) (xs.length:Int) (by omega)
  ·exact e5b cb cl ce so j1 j2 j3 j4 d _ _ (g9 xs) (k:Int) (xs.length:Int) ⟨by omega,by omega,(by omega)⟩ (b5r xs k hk) _ _ (Q9 _ _ _) (Q9 _ _ _)
theorem d5u(cb cl ce:Int)(so:List UInt8)(j1 j2 j3 j4 d:D)(p:Bool)(xs:List (List UInt8))(hl:xs.length<=1000000)(hb: ∀x∈xs,x.length<=9000000000):a6k cb cl ce so j1 j2 j3 j4 d (c8 p 1 (rS xs)) 0 (xs.length:Int)=if D4 (gN xs) 0 xs.length=true then b8w cb cl ce so j1 j2 j3 j4 d (c8 p 1 (rS xs))else c8b cb cl ce so j1 j2 j3 j4 d (c8 p 1 (rS xs)):=by
 by_cases hx:xs=[]
 ·subst hx
  cases p
  ·exact c0u cb cl ce so j1 j2 j3 j4 d [] 0 (by simp)
  ·exact d5l cb cl ce so j1 j2 j3 j4 d
 ·rw[o7 p 1 (rS xs) (fun h=>hx (by
   have:=congrArg List.length h
   rw[i7]at this
   exact List.length_eq_zero_iff.1 this))]
  refine P0 (fun i=>a6k cb cl ce so j1 j2 j3 j4 d (.sl 1 (rS xs)) i (xs.length:Int)) _ _ (gN xs) xs.length ?_ (fun k hk=>?_) xs.length 0 (by omega)
  ·exact c0u cb cl ce so j1 j2 j3 j4 d (rS xs) (xs.length:Int) (by omega)
  ·exact e5c cb cl ce so j1 j2 j3 j4 d (xs.getD k []) (rS xs) (k:Int) (xs.length:Int) ⟨by omega,by omega,(by omega)⟩ (b3m xs k hk) (hb _ (L5 xs k _ hk)) _ (T5 _ (mx _ (hb _ (L5 xs k _ hk))))
theorem d5v(cb cl ce:Int)(so:List UInt8)(j1 j2 j3 j4 d:D)(p:Bool)(xs:List (List UInt8))(hl:xs.length<=1000000)(hb: ∀x∈xs,x.length<=9000000000):a6l cb cl ce so j1 j2 j3 j4 d (c8 p 1 (rS xs)) 0=if D4 (gN xs) 0 xs.length=true then b8x cb cl ce so j1 j2 j3 j4 d (c8 p 1 (rS xs))else c8c cb cl ce so j1 j2 j3 j4 d (c8 p 1 (rS xs)):=by
 by_cases hx:xs=[]
 ·subst hx
  cases p
  ·exact c0v cb cl ce so j1 j2 j3 j4 d [] (by simp)
  ·exact d5m cb cl ce so j1 j2 j3 j4 d
 ·rw[o7 p 1 (rS xs) (fun h=>hx (by
   have:=congrArg List.length h
   rw[i7]at this
   exact List.length_eq_zero_iff.1 this))]
  refine P0 (fun i=>a6l cb cl ce so j1 j2 j3 j4 d (.sl 1 (rS xs)) i) _ _ (gN xs) xs.length ?_ (fun k hk=>?_) xs.length 0 (by omega)
  ·have h:=c0v cb cl ce so j1 j2 j3 j4 d (rS xs) (by rw[i7];exact hl);rw[i7]at h;exact h
  ·exact e5d cb cl ce so j1 j2 j3 j4 d (xs.getD k []) (rS xs) (k:Int) ⟨by omega,by rw[i7];omega,(by rw[i7];exact hl)⟩ (b3m xs k hk) (hb _ (L5 xs k _ hk)) _ (a0n _ (mx _ (hb _ (L5 xs k _ hk))))
theorem d5w(cb cl ce:Int)(so:List UInt8)(j1 j2 j3 j4 d:D)(p:Bool)(xs:List (List UInt8))(hl:xs.length<=1000000)(hb: ∀x∈xs,x.length<=9000000000):a6m cb cl ce so j1 j2 j3 j4 d (c8 p 1 (rS xs)) 0 (xs.length:Int)=if D4 (gT 200 xs) 0 xs.length=true then b8y cb cl ce so j1 j2 j3 j4 d (c8 p 1 (rS xs))else c8d cb cl ce so j1 j2 j3 j4 d (c8 p 1 (rS xs)):=by
 by_cases hx:xs=[]
 ·subst hx
  cases p
  ·exact c0w cb cl ce so j1 j2 j3 j4 d [] 0 (by simp)
  ·exact d5n cb cl ce so j1 j2 j3 j4 d
 ·rw[o7 p 1 (rS xs) (fun h=>hx (by
   have:=congrArg List.length h
   rw[i7]at this
   exact List.length_eq_zero_iff.1 this))]
  refine P0 (fun i=>a6m cb cl ce so j1 j2 j3 j4 d (.sl 1 (rS xs)) i (xs.length:Int)) _ _ (gT 200 xs) xs.length ?_ (fun k hk=>?_) xs.length 0 (by omega)
  ·exact c0w cb cl ce so j1 j2 j3 j4 d (rS xs) (xs.length:Int) (by omega)
  ·exact e5e cb cl ce so j1 j2 j3 j4 d (xs.getD k []) (rS xs) (k:Int) (xs.length:Int) ⟨by omega,by omega,(by omega)⟩ (b3m xs k hk) (hb _ (L5 xs k _ hk))
theorem d5x(cb cl ce:Int)(so:List UInt8)(j1 j2 j3 j4 d:D)(p:Bool)(xs:List (List UInt8))(hl:xs.length<=1000000)(hb: ∀x∈xs,x.length<=9000000000):a6n cb cl ce so j1 j2 j3 j4 d (c8 p 1 (rS xs)) 0=if D4 (gT 200 xs) 0 xs.length=true then b8z cb cl ce so j1 j2 j3 j4 d (c8 p 1 (rS xs))else c8e cb cl ce so j1 j2 j3 j4 d (c8 p 1 (rS xs)):=by
 by_cases hx:xs=[]
 ·subst hx
  cases p
  ·exact c0x cb cl ce so j1 j2 j3 j4 d [] (by simp)
  ·exact d5o cb cl ce so j1 j2 j3 j4 d
 ·rw[o7 p 1 (rS xs) (fun h=>hx (by
   have:=congrArg List.length h
   rw[i7]at this
   exact List.length_eq_zero_iff.1 this))]
  refine P0 (fun i=>a6n cb cl ce so j1 j2 j3 j4 d (.sl 1 (rS xs)) i) _ _ (gT 200 xs) xs.length ?_ (fun k hk=>?_) xs.length 0 (by omega)
  ·have h:=c0x cb cl ce so j1 j2 j3 j4 d (rS xs) (by rw[i7];exact hl);rw[i7]at h;exact h
  ·exact e5f cb cl ce so j1 j2 j3 j4 d (xs.getD k []) (rS xs) (k:Int) ⟨by omega,by rw[i7];omega,(by rw[i7];exact hl)⟩ (b3m xs k hk) (hb _ (L5 xs k _ hk))
theorem d9x(cb cl ce:Int)(so:List UInt8)(j1 j2 j3 j4 d:D)(p:Bool)(xs:List (v9))(hl:xs.length<=1000000)(hb: ∀x∈xs,x.Name.length<=9000000000∧x.Val.length<=9000000000):a5e so d (c8 p 2 (rV xs)) 0 (xs.length:Int)=if D4 (gV xs) 0 xs.length=true then c3s so d (c8 p 2 (rV xs))else c3t so d (c8 p 2 (rV xs)):=by
 by_cases hx:xs=[]
 ·subst hx
  cases p
  ·exact c3u cb cl ce so j1 j2 j3 j4 d [] 0 (by simp)
  ·exact d9t cb cl ce so j1 j2 j3 j4 d
 ·rw[o7 p 2 (rV xs) (fun h=>hx (by
   have:=congrArg List.length h
   rw[l7]at this
   exact List.length_eq_zero_iff.1 this))]
  refine P0 (fun i=>a5e so d (.sl 2 (rV xs)) i (xs.length:Int)) _ _ (gV xs) xs.length ?_ (fun k hk=>?_) xs.length 0 (by omega)
  ·exact c3u cb cl ce so j1 j2 j3 j4 d (rV xs) (xs.length:Int) (by omega)
  ·have h1:=hb _ (L5 xs k ⟨[],[]⟩ hk)
   cases k with
   |zero=>
    have e:gV xs 0=(nmB (vG xs 0).Name&&decide ((vG xs 0).Val.length<=40)):=Bool.and_true _
    rw[e]
    exact f0k cb cl ce so j1 j2 j3 j4 d (vG xs 0).Name (vG xs 0).Val (rV xs) ((0:Nat):Int) (xs.length:Int) ⟨by omega,by omega,by omega,(by omega)⟩ (b3n xs 0 hk) h1.1 h1.2 _ (T5 _ (mx _ h1.1))
   |succ k=>
    exact f0l cb cl ce so j1 j2 j3 j4 d (vG xs (k+1)).Name (vG xs (k+1)).Val (rV xs) ((k+1:Nat):Int) (xs.length:Int) ⟨by omega,by omega,(by omega)⟩ (b3n xs (k+1) hk) h1.1 h1.2 _ (T5 _ (mx _ h1.1)) (vG xs k).Name (vG xs k).Val (by rw[show(((k+1:Nat):Int)-1).toNat=k by omega];exact b3n xs k (by omega)) _ rfl
theorem d9y(cb cl ce:Int)(so:List UInt8)(j1 j2 j3 j4 d:D)(p:Bool)(xs:List (v9))(hl:xs.length<=1000000)(hb: ∀x∈xs,x.Name.length<=9000000000∧x.Val.length<=9000000000):a5f so d (c8 p 2 (rV xs)) 0=if D4 (gV xs) 0 xs.length=true then c3v so d (c8 p 2 (rV xs))else c3w so d (c8 p 2 (rV xs)):=by
 by_cases hx:xs=[]
 ·subst hx
  cases p
  ·exact c3x cb cl ce so j1 j2 j3 j4 d [] (by simp)
  ·exact d9u cb cl ce so j1 j2 j3 j4 d
 ·rw[o7 p 2 (rV xs) (fun h=>hx (by
   have:=congrArg List.length h
   rw[l7]at this
   exact List.length_eq_zero_iff.1 this))]
  refine P0 (fun i=>a5f so d (.sl 2 (rV xs)) i) _ _ (gV xs) xs.length ?_ (fun k hk=>?_) xs.length 0 (by omega)
  ·have h:=c3x cb cl ce so j1 j2 j3 j4 d (rV xs) (by rw[l7];exact hl);rw[l7]at h;exact h
  ·have h1:=hb _ (L5 xs k ⟨[],[]⟩ hk)
   cases k with
   |zero=>
    have e:gV xs 0=(nmB (vG xs 0).Name&&decide ((vG xs 0).Val.length<=40)):=Bool.and_true _
    rw[e]
    exact f0m cb cl ce so j1 j2 j3 j4 d (vG xs 0).Name (vG xs 0).Val (rV xs) ((0:Nat):Int) ⟨by omega,by omega,by rw[l7];omega,(by rw[l7];exact hl)⟩ (b3n xs 0 hk) h1.1 h1.2 _ (a0n _ (mx _ h1.1))
   |succ k=>
    exact f0n cb cl ce so j1 j2 j3 j4 d (vG xs (k+1)).Name (vG xs (k+1)).Val (rV xs) ((k+1:Nat):Int) ⟨by omega,by rw[l7];omega,(by rw[l7];exact hl)⟩ (b3n xs (k+1) hk) h1.1 h1.2 _ (a0n _ (mx _ h1.1)) (vG xs k).Name (vG xs k).Val (by rw[show(((k+1:Nat):Int)-1).toNat=k by omega];exact b3n xs k (by omega)) _ rfl
theorem d5y(cb cl ce:Int)(so:List UInt8)(j1 j2 j3 j4 d:D)(p:Bool)(xs:List (q9))(hl:xs.length<=1000000)(hb: ∀x∈xs,x.Name.length<=9000000000∧x.Key.length<=9000000000∧x.Val.length<=9000000000):a2g so d (c8 p 3 (rC xs)) 0 (xs.length:Int)=if D4 (gC xs) 0 xs.length=true then b9a so d (c8 p 3 (rC xs))else b9b so d (c8 p 3 (rC xs)):=by
 by_cases hx:xs=[]
 ·subst hx
  cases p
  ·exact c0y cb cl ce so j1 j2 j3 j4 d [] 0 (by simp)
  ·exact d5p cb cl ce so j1 j2 j3 j4 d
 ·rw[o7 p 3 (rC xs) (fun h=>hx (by
   have:=congrArg List.length h
   rw[l8]at this
   exact List.length_eq_zero_iff.1 this))]
  refine P0 (fun i=>a2g so d (.sl 3 (rC xs)) i (xs.length:Int)) _ _ (gC xs) xs.length ?_ (fun k hk=>?_) xs.length 0 (by omega)
  ·exact c0y cb cl ce so j1 j2 j3 j4 d (rC xs) (xs.length:Int) (by omega)
  ·have h1:=hb _ (L5 xs k ⟨[],[],[]⟩ hk)
   cases k with
   |zero=>
    have e:gC xs 0=(nmB (cG xs 0).Name&&decide ((cG xs 0).Key.length<=40)&&decide ((cG xs 0).Val.length<=40)):=Bool.and_true _
    rw[e]
    exact e5g cb cl ce so j1 j2 j3 j4 d (cG xs 0).Name (cG xs 0).Key (cG xs 0).Val (rC xs) ((0:Nat):Int) (xs.length:Int) ⟨by omega,by omega,by omega,(by omega)⟩ (b3o xs 0 hk) h1.1 h1.2.1 h1.2.2 _ (T5 _ (mx _ h1.1))
   |succ k=>
    exact e5h cb cl ce so j1 j2 j3 j4 d (cG xs (k+1)).Name (cG xs (k+1)).Key (cG xs (k+1)).Val (rC xs) ((k+1:Nat):Int) (xs.length:Int) ⟨by omega,by omega,(by omega)⟩ (b3o xs (k+1) hk) h1.1 h1.2.1 h1.2.2 _ (T5 _ (mx _ h1.1)) (cG xs k).Name (cG xs k).Key (cG xs k).Val (by rw[show(((k+1:Nat):Int)-1).toNat=k by omega];exact b3o xs k (by omega)) _ _ (d9v (cG xs k) (cG xs (k+1))) (d1w _ _)
theorem d5z(cb cl ce:Int)(so:List UInt8)(j1 j2 j3 j4 d:D)(p:Bool)(xs:List (q9))(hl:xs.length<=1000000)(hb: ∀x∈xs,x.Name.length<=9000000000∧x.Key.length<=9000000000∧x.Val.length<=9000000000):a2h so d (c8 p 3 (rC xs)) 0=if D4 (gC xs) 0 xs.length=true then b9c so d (c8 p 3 (rC xs))else b9d so d (c8 p 3 (rC xs)):=by
 by_cases hx:xs=[]
 ·subst hx
  cases p
  ·exact c0z cb cl ce so j1 j2 j3 j4 d [] (by simp)
  ·exact d5q cb cl ce so j1 j2 j3 j4 d
 ·rw[o7 p 3 (rC xs) (fun h=>hx (by
   have:=congrArg List.length h
   rw[l8]at this
   exact List.length_eq_zero_iff.1 this))]
  refine P0 (fun i=>a2h so d (.sl 3 (rC xs)) i) _ _ (gC xs) xs.length ?_ (fun k hk=>?_) xs.length 0 (by omega)
  ·have h:=c0z cb cl ce so j1 j2 j3 j4 d (rC xs) (by rw[l8];exact hl);rw[l8]at h;exact h
  ·have h1:=hb _ (L5 xs k ⟨[],[],[]⟩ hk)
   cases k with
   |zero=>
    have e:gC xs 0=(nmB (cG xs 0).Name&&decide ((cG xs 0).Key.length<=40)&&decide ((cG xs 0).Val.length<=40)):=Bool.and_true _
    rw[e]
    exact e5i cb cl ce so j1 j2 j3 j4 d (cG xs 0).Name (cG xs 0).Key (cG xs 0).Val (rC xs) ((0:Nat):Int) ⟨by omega,by omega,by rw[l8];omega,(by rw[l8];exact hl)⟩ (b3o xs 0 hk) h1.1 h1.2.1 h1.2.2 _ (a0n _ (mx _ h1.1))
   |succ k=>
    exact e5j cb cl ce so j1 j2 j3 j4 d (cG xs (k+1)).Name (cG xs (k+1)).Key (cG xs (k+1)).Val (rC xs) ((k+1:Nat):Int) ⟨by omega,by rw[l8];omega,(by rw[l8];exact hl)⟩ (b3o xs (k+1) hk) h1.1 h1.2.1 h1.2.2 _ (a0n _ (mx _ h1.1)) (cG xs k).Name (cG xs k).Key (cG xs k).Val (by rw[show(((k+1:Nat):Int)-1).toNat=k by omega];exact b3o xs k (by omega)) _ (d9w (cG xs k) (cG xs (k+1)))
end
end Go.Vsi
