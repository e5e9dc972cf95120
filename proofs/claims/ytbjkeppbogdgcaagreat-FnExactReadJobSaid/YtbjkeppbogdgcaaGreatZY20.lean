/- What the functions of the program, of the reference and of the law do (a part of it). -/
import Derived.Test.YtbjkeppbogdgcaaGreatZY19
import Derived.Test.YtbjkeppbogdgcaaGreatZY16
namespace Go.Vsi
open Go.Proofs
noncomputable section
set_option maxRecDepth 100000
set_option maxHeartbeats 4000000
set_option linter.unusedSimpArgs false
set_option linter.unusedVariables false
attribute [local go_sem ↓] v6
def nsP(op a i:Int):List Int:=if f8 op 23=true then[]else if f8 op 22=true then[a]else if f8 op 21=true then[i+1,a]else[i+1]
def b8r(x:i6):Bool:=decide (1<=x.Op∧x.Op<=24)&&decide (0<=x.Arg∧x.Arg<=255)
def arS(rd:List UInt8->Bool)(Ts:List (List UInt8))(e:Int)(x:i6)(i:Int):Bool:=b8r x&&a9b rd Ts x.Op x.Arg i e
def b3k(ar:i6->Int->Bool)(L:List i6)(i:Int)(G:List Int):Option (List Int):=
 if ar (L.getD i.toNat ⟨0,0⟩) i=false then none
 else if G.getD i.toNat 0<0 then some G
 else if G.getD i.toNat 0<tk (L.getD i.toNat ⟨0,0⟩).Op (L.getD i.toNat ⟨0,0⟩).Arg then none
 else if 20<G.getD i.toNat 0-tk (L.getD i.toNat ⟨0,0⟩).Op (L.getD i.toNat ⟨0,0⟩).Arg+pt (L.getD i.toNat ⟨0,0⟩).Op then none
 else goP (G.getD i.toNat 0-tk (L.getD i.toNat ⟨0,0⟩).Op (L.getD i.toNat ⟨0,0⟩).Arg+pt (L.getD i.toNat ⟨0,0⟩).Op) (nsP (L.getD i.toNat ⟨0,0⟩).Op (L.getD i.toNat ⟨0,0⟩).Arg i) G
abbrev sA(c:n8)(p q:Bool)(e i:Int)(N:Nat)(G:List Int):St:=⟨[J,J,.one (.c (.d (.v (.int .i64 (e))))),.one (.c (.ptr 0 0 0)),J,J,J,.one (.c (.arr 1 0 N)),J,.one (.c (.d (.v (.int .i64 (i))))),J,J,J,J,J,J,J,J,J,J,J,J,J,J,J,J,J,J,J,J,J,J,J,J,J,J,J,J,J,J,J,J,J,J,J,J,J,J,J,J,J,J,J,J,J,J,J,J,J,J,J,J,J,J,J,J,J,J,J,J,J,J,J,J,J,J,J,J,J,J,J,J,J,J,J,J,J,J,J,J,J,J,J,J,J,J,J,J,J,J,J,J,J,J,J,J,J,J,J,J,J,J,J,J,J,J,J,J,J,J,J,J,J,J,J,J,J,J,J,J,J,J,J,J,J,J,J,J,J,J,J,J,J,J,J,J,J,J,J,J,J,J],c7 [some (.var [.d (c8 p 1 (rS c.Texts)),.d (c8 q 2 (g9 c.List)),.d (.v (.int .i64 (c.Begin))),.d (.v (.int .i64 (c.Line))),.d (.v (.int .i64 (c.End)))]),some (.arr 1 (rI G))],2,0⟩
abbrev sE(e:Int)(N:Nat)(G:List Int):St:=⟨[J,J,.one (.c (.d (.v (.int .i64 (e))))),J,J,J,J,.one (.c (.arr 0 0 N)),J,J,J,J,J,J,J,J,J,J,J,J,J,J,J,J,J,J,J,J,J,J,J,J,J,J,J,J,J,J,J,J,J,J,J,J,J,J,J,J,J,J,J,J,J,J,J,J,J,J,J,J,J,J,J,J,J,J,J,J,J,J,J,J,J,J,J,J,J,J,J,J,J,J,J,J,J,J,J,J,J,J,J,J,J,J,J,J,J,J,J,J,J,J,J,J,J,J,J,J,J,J,J,J,J,J,J,J,J,J,J,J,J,J,J,J,J,J,J,J,J,J,J,J,J,J,J,J,J,J,J,J,J,J,J,J,J,J,J,J,J,J,J,J],c7 [some (.arr 1 (rI G))],1,0⟩
abbrev sR(e:Int)(N:Nat)(G:List Int):St:=⟨[J,J,.one (.c (.d (.v (.int .i64 (e))))),J,J,J,.one (.c (.d (.v (.bool (false))))),.one (.c (.arr 0 0 N)),J,J,J,J,J,J,J,J,J,J,J,J,J,J,J,J,J,J,J,J,J,J,J,J,J,J,J,J,J,J,J,J,J,J,J,J,J,J,J,J,J,J,J,J,J,J,J,J,J,J,J,J,J,J,J,J,J,J,J,J,J,J,J,J,J,J,J,J,J,J,J,J,J,J,J,J,J,J,J,J,J,J,J,J,J,J,J,J,J,J,J,J,J,J,J,J,J,J,J,J,J,J,J,J,J,J,J,J,J,J,J,J,J,J,J,J,J,J,J,J,J,J,J,J,J,J,J,J,J,J,J,J,J,J,J,J,J,J,J,J,J,J,J,J],c7 [some (.arr 1 (rI G))],1,0⟩
abbrev lpS(c:n8)(p q:Bool)(e i:Int)(N:Nat)(G:List Int):Option (Ex×St):=g8 Tryz.prog T1 (c6 Tryz.prog T1 L1) 65 (cq Tryz.f65 [0,0,1,0,1,1,1,1]) (sA c p q e i N G)
structure d1s(c:n8)(e:Int)(N:Nat):Prop where
 b1:0<=e
 b2:e<=(c.List.length:Int)
 b3:c.List.length<=300
 n1:(N:Int)<=e+1
 n2:e+1<=(N:Int)
 tx: ∀t∈c.Texts,t.length<=1000000000
 tl:c.Texts.length<=1000000
theorem d5g(n:Int)(hn:0<=n∧n<=20): ∀(js:List Int)(G G':List Int),okH G->goP n js G=some G'->okH G'∧G'.length=G.length
 |[],G,G',h,e=>by
  obtain rfl:=Option.some.inj e
  exact⟨h,rfl⟩
 |j::js,G,G',h,e=>by
  rw[goP]at e
  split at e
  ·have:=d5g n hn js _ G' (a6g h _ _ hn) e
   rwa[List.length_set]at this
  ·cases e
theorem d1t(rd:List UInt8->Bool)(hR:C5 82 rd)(c:n8)(p q:Bool)(e:Int)(N:Nat)(hp:d1s c e N)(i:Int)(G:List Int)(hl:G.length=N)(ho:okH G)(h1:0<=i)(h2:i<e):
  match b3k (arS rd c.Texts e) c.List i G with
  |some G'=>G'.length=N∧okH G'∧lpS c p q e i N G=lpS c p q e (i+1) N G'
  |none=> ∃G',lpS c p q e i N G=some (.ret,sR e N G'):=by
 obtain⟨b1,b2,b3,n1,n2,tx,tl⟩:=hp
 have hne:g9 c.List≠[]:=fun h=>by
  have:=congrArg List.length h
  rw[k8]at this
  simp at this
  rw[this]at b2
  simp at b2
  omega
 have hd:=o7 q 2 (g9 c.List) hne
 have hg0:=b5r c.List i.toNat (by omega)
 have hg:=a4d G i.toNat (by omega)
 have q1:=b3j (c.List.getD i.toNat ⟨0,0⟩).Op 1 24
 have q2:=b3j (c.List.getD i.toNat ⟨0,0⟩).Arg 0 255
 have hA:=fun ha=>d5d rd hR c p q (c.List.getD i.toNat ⟨0,0⟩).Op (c.List.getD i.toNat ⟨0,0⟩).Arg i e tx (by omega) ha
 have hT:=fun h=>c6o (c.List.getD i.toNat ⟨0,0⟩).Op (c.List.getD i.toNat ⟨0,0⟩).Arg h
 have hae:=e9v rd c.Texts (c.List.getD i.toNat ⟨0,0⟩).Op (c.List.getD i.toNat ⟨0,0⟩).Arg i e
 have hj:=b2p rd c.Texts (c.List.getD i.toNat ⟨0,0⟩).Op (c.List.getD i.toNat ⟨0,0⟩).Arg i e
 have bt:=e1j (c.List.getD i.toNat ⟨0,0⟩).Op (c.List.getD i.toNat ⟨0,0⟩).Arg
 have bu:=d1q (c.List.getD i.toNat ⟨0,0⟩).Op
 have bv:=a9x ho i.toNat
 unfold b3k arS b8r lpS sA
 rw[hd]at hA⊢
 unfold sR
 generalize (c.List.getD i.toNat ⟨0,0⟩).Op=op at*
 generalize (c.List.getD i.toNat ⟨0,0⟩).Arg=a at*
 have k1:0<=i∧i<e∧e<=1000:=by omega
 have k2:e<(N:Int)∧(N:Int)<=2000:=by omega
 by_cases r1:1<=op∧op<=24
 ·by_cases r2:0<=a∧a<=255
  ·rw[decide_eq_true r1]at q1⊢
   rw[decide_eq_true r2]at q2⊢
   replace hA:=hA r2
   replace hT:=hT r1
   replace bt:=bt r2
   rw[hae r1 r2.1]at hA
   simp only[Bool.true_and]
   generalize a9b rd c.Texts op a i e=A at hA hj⊢
   cases A with
   |false=>
    rw[if_pos rfl]
    exact⟨G,f0f _ _ _ _ e i op a 0 0 _ N _ _ [] k1 k2 hg0 hg q1 q2 hA⟩
   |true=>
    rw[if_neg (by simp)]
    by_cases hv:G.getD i.toNat 0<0
    ·rw[if_pos hv]
     exact⟨hl,ho,f0g _ _ _ _ e i op a _ _ _ N _ _ [] k1 k2 hg0 hg q1 q2 hA hT bt bu bv hv⟩
    ·rw[if_neg hv]
     have v0:0<=G.getD i.toNat 0:=by omega
     by_cases ht:G.getD i.toNat 0<tk op a
     ·rw[if_pos ht]
      exact⟨G,f0h _ _ _ _ e i op a _ _ _ N _ _ [] k1 k2 hg0 hg q1 q2 hA hT bt bu bv v0 ht⟩
     ·rw[if_neg ht]
      have v1:tk op a<=G.getD i.toNat 0:=by omega
      have hn0:0<=G.getD i.toNat 0-tk op a+pt op:=by omega
      by_cases hb:20<G.getD i.toNat 0-tk op a+pt op
      ·rw[if_pos hb]
       exact⟨G,f0i _ _ _ _ e i op a _ _ _ N _ _ [] k1 k2 hg0 hg q1 q2 hA hT bt bu bv v0 v1 hb⟩
      ·rw[if_neg hb]
       have hb2:G.getD i.toNat 0-tk op a+pt op<=20:=by omega
       have hns: ∀j∈nsP op a i,0<=j∧j<(G.length:Int):=fun j hjm=>by
        unfold nsP at hjm
        split at hjm
        ·cases hjm
        ·split at hjm
         ·rename_i e2
          have:=hj rfl (Or.inr e2)
          simp at hjm;omega
         ·split at hjm
          ·rename_i e3
           have:=hj rfl (Or.inl e3)
           simp at hjm;omega
          ·simp at hjm;omega
       have hln:(nsP op a i).length<=10:=by
        unfold nsP
        split
        ·simp
        ·split
         ·simp
         ·split<;>simp
       have hG:=c7x (c8 p 1 (rS c.Texts)) (.sl 2 (g9 c.List)) c.Begin c.Line c.End e i (G.getD i.toNat 0-tk op a+pt op) (nsP op a i) hln (nsP op a i) 0 G rfl hns (by omega)
       have hok:=fun G'=>d5g (G.getD i.toNat 0-tk op a+pt op) ⟨hn0,hb2⟩ (nsP op a i) G G' ho
       rw[hl]at hG
       clear hns hln hj
       have c0:((0:Nat):Int)=0:=rfl
       rw[c0]at hG
       by_cases e1:f8 op 23=true
       ·have e2:f8 op 22=false:=by rw[X5]at e1;subst e1;rfl
        have e3:f8 op 21=false:=by rw[X5]at e1;subst e1;rfl
        have en:nsP op a i=[]:=if_pos e1
        rw[en]at hG hok⊢
        cases hc:goP (G.getD i.toNat 0-tk op a+pt op) [] G with
        |none=>cases hc
        |some G'=>
         rw[hc]at hG
         obtain⟨g1,g2⟩:=hok G' hc
         exact⟨by omega,g1,f0j _ _ _ _ e i op a _ _ _ N _ _ _ k1 k2 hg0 hg q1 q2 hA hT bt bu bv v0 v1 hb2 e1 e2 e3 hG.2⟩
       ·rw[Bool.not_eq_true]at e1
        by_cases e2:f8 op 22=true
        ·have e3:f8 op 21=false:=by rw[X5]at e2;subst e2;rfl
         have en:nsP op a i=[a]:=by unfold nsP;rw[e1,e2];rfl
         rw[en]at hG hok⊢
         cases hc:goP (G.getD i.toNat 0-tk op a+pt op) [a] G with
         |none=>
          rw[hc]at hG
          obtain⟨G',hG⟩:=hG
          exact⟨_,f6d _ _ _ _ e i op a _ _ _ N _ _ _ k1 k2 hg0 hg q1 q2 hA hT bt bu bv v0 v1 hb2 e1 e2 e3 hG⟩
         |some G'=>
          rw[hc]at hG
          obtain⟨g1,g2⟩:=hok G' hc
          exact⟨by omega,g1,f6c _ _ _ _ e i op a _ _ _ N _ _ _ k1 k2 hg0 hg q1 q2 hA hT bt bu bv v0 v1 hb2 e1 e2 e3 hG.2⟩
        ·rw[Bool.not_eq_true]at e2
         by_cases e3:f8 op 21=true
         ·have en:nsP op a i=[i+1,a]:=by unfold nsP;rw[e1,e2,e3];rfl
          rw[en]at hG hok⊢
          cases hc:goP (G.getD i.toNat 0-tk op a+pt op) [i+1,a] G with
          |none=>
           rw[hc]at hG
           obtain⟨G',hG⟩:=hG
           exact⟨_,f6h _ _ _ _ e i op a _ _ _ N _ _ _ k1 k2 hg0 hg q1 q2 hA hT bt bu bv v0 v1 hb2 e1 e2 e3 hG⟩
          |some G'=>
           rw[hc]at hG
           obtain⟨g1,g2⟩:=hok G' hc
           exact⟨by omega,g1,f6g _ _ _ _ e i op a _ _ _ N _ _ _ k1 k2 hg0 hg q1 q2 hA hT bt bu bv v0 v1 hb2 e1 e2 e3 hG.2⟩
         ·rw[Bool.not_eq_true]at e3
          have en:nsP op a i=[i+1]:=by unfold nsP;rw[e1,e2,e3];rfl
          rw[en]at hG hok⊢
          cases hc:goP (G.getD i.toNat 0-tk op a+pt op) [i+1] G with
          |none=>
           rw[hc]at hG
           obtain⟨G',hG⟩:=hG
           exact⟨_,f6f _ _ _ _ e i op a _ _ _ N _ _ _ k1 k2 hg0 hg q1 q2 hA hT bt bu bv v0 v1 hb2 e1 e2 e3 hG⟩
          |some G'=>
           rw[hc]at hG
           obtain⟨g1,g2⟩:=hok G' hc
           exact⟨by omega,g1,f6e _ _ _ _ e i op a _ _ _ N _ _ _ k1 k2 hg0 hg q1 q2 hA hT bt bu bv v0 v1 hb2 e1 e2 e3 hG.2⟩
  ·rw[decide_eq_true r1]at q1⊢
   rw[decide_eq_false r2]at q2⊢
   exact⟨G,f6b _ _ _ _ e i op a 0 0 _ N _ _ [] k1 k2 hg0 hg q1 q2⟩
 ·rw[decide_eq_false r1]at q1⊢
  simp only[Bool.false_and]
  cases hq:decide (0<=a∧a<=255)with
  |true=>
   rw[hq]at q2
   exact⟨G,f6a _ _ _ _ e i op a 0 0 _ N _ _ [] k1 k2 hg0 hg q1 q2⟩
  |false=>
   rw[hq]at q2
   exact⟨G,f0e _ _ _ _ e i op a 0 0 _ N _ _ [] k1 k2 hg0 hg q1 q2⟩
def b2q(ar:i6->Int->Bool)(L:List i6):Nat->Int->List Int->Option (List Int)
 |0,_,G=>some G
 |m+1,i,G=>match b3k ar L i G with
  |none=>none
  |some G'=>b2q ar L m (i+1) G'
theorem d5h(c:n8)(p q:Bool)(e:Int)(N:Nat)(G:List Int):lpS c p q e e N G=some (.exit 2,sE e N G):=by
 unfold lpS sA sE
 generalize c8 q 2 (g9 c.List)=d2
 generalize c8 p 1 (rS c.Texts)=d1
 generalize rI G=R
 exact lp Y2
theorem b7s(rd:List UInt8->Bool)(hR:C5 82 rd)(c:n8)(p q:Bool)(e:Int)(N:Nat)(hp:d1s c e N): ∀(m:Nat)(i:Int)(G:List Int),G.length=N->okH G->0<=i->i+m=e->
  match b2q (arS rd c.Texts e) c.List m i G with
  |some Gf=>Gf.length=N∧okH Gf∧lpS c p q e i N G=some (.exit 2,sE e N Gf)
  |none=> ∃G',lpS c p q e i N G=some (.ret,sR e N G')
 |0,i,G,hl,ho,h1,h2=>by
  have:i=e:=by simpa using h2
  subst this
  exact⟨hl,ho,d5h c p q i N G⟩
 |m+1,i,G,hl,ho,h1,h2=>by
  have hs:=d1t rd hR c p q e N hp i G hl ho h1 (by omega)
  rw[b2q]
  cases hc:b3k (arS rd c.Texts e) c.List i G with
  |none=>
   rw[hc]at hs
   exact hs
  |some G'=>
   rw[hc]at hs
   obtain⟨g1,g2,g3⟩:=hs
   have ih:=b7s rd hR c p q e N hp m (i+1) G' g1 g2 (by omega) (by omega)
   rw[<-g3]at ih
   exact ih
end
end Go.Vsi
namespace Go.Vsi
open Go.Proofs
noncomputable section
set_option maxRecDepth 100000
set_option maxHeartbeats 4000000
set_option linter.unusedSimpArgs false
set_option linter.unusedVariables false
attribute [local go_sem ↓] v6
def pre(f:Int):List Int:=List.replicate f.toNat (-1)
theorem b8s(f j:Int)(H:List Int)(h0:0<=f)(h:f<=j):(pre f++H).getD j.toNat 0=H.getD (j-f).toNat 0:=by
 unfold pre
 rw[List.getD_eq_getElem?_getD,List.getElem?_append_right (by simp;omega),List.length_replicate,List.getD_eq_getElem?_getD,show j.toNat-f.toNat=(j-f).toNat by omega]
theorem b3l(f j v:Int)(H:List Int)(h0:0<=f)(h:f<=j):(pre f++H).set j.toNat v=pre f++H.set (j-f).toNat v:=by
 unfold pre
 rw[List.set_append_right _ _ (by simp;omega),List.length_replicate,show j.toNat-f.toNat=(j-f).toNat by omega]
theorem b7t(f j n:Int)(H:List Int)(h0:0<=f)(h:f<=j):cmB (pre f++H) j.toNat n=cmB H (j-f).toNat n:=by
 unfold cmB
 rw[b8s f j H h0 h]
theorem d9r(ar:i6->Int->Bool)(L:List i6)(f i:Int)(H H':List Int)(ho:okH H)(h:S4 ar L f i H=some H'):okH H':=by
 have bu:=d1q (L.getD i.toNat ⟨0,0⟩).Op
 unfold S4 at h
 generalize (L.getD i.toNat ⟨0,0⟩).Op=op at*
 generalize (L.getD i.toNat ⟨0,0⟩).Arg=a at*
 have hj: ∀G,okH G-> ∀n,0<=n->b5q a f G n=some H'->okH H':=fun G hG n hn hq=>by
  unfold b5q at hq
  split at hq
  ·rename_i hc
   simp only[Bool.and_eq_true,decide_eq_true_eq]at hc
   obtain rfl:=Option.some.inj hq
   exact a6g hG _ _ ⟨hn,hc.2⟩
  ·cases hq
 split at h
 ·cases h
 ·split at h
  ·obtain rfl:=Option.some.inj h;exact ho
  ·split at h
   ·cases h
   ·rename_i h1 h2 h3
    have hn:0<=H.getD (i-f).toNat 0-tk op a+pt op:=by omega
    unfold d1p at h
    split at h
    ·obtain rfl:=Option.some.inj h;exact ho
    ·split at h
     ·exact hj H ho _ hn h
     ·split at h
      ·rename_i hc
       simp only[Bool.and_eq_true,decide_eq_true_eq]at hc
       have ho2:=a6g ho (i+1-f).toNat _ ⟨hn,hc.2⟩
       split at h
       ·exact hj _ ho2 _ hn h
       ·obtain rfl:=Option.some.inj h;exact ho2
      ·cases h
theorem d9s(ar:i6->Int->Bool)(L:List i6)(f i:Int)(H:List Int)(h0:0<=f)(hi:f<=i)(ho:okH H)(har:ar (L.getD i.toNat ⟨0,0⟩) i=true->(f8 (L.getD i.toNat ⟨0,0⟩).Op 21=true∨f8 (L.getD i.toNat ⟨0,0⟩).Op 22=true)->i+1<=(L.getD i.toNat ⟨0,0⟩).Arg):
  b3k ar L i (pre f++H)=(S4 ar L f i H).map (pre f++ ·):=by
 unfold b3k S4
 rw[b8s f i H h0 hi]
 have bv:=a9x ho (i-f).toNat
 have h23: ∀a,tk 23 a=0∧pt 23=0:=fun a=>⟨rfl,rfl⟩
 generalize (L.getD i.toNat ⟨0,0⟩).Op=op at*
 generalize (L.getD i.toNat ⟨0,0⟩).Arg=a at*
 generalize H.getD (i-f).toNat 0=v at*
 cases hA:ar (L.getD i.toNat ⟨0,0⟩) i with
 |false=>rfl
 |true=>
  replace har:=har hA
  have htf: ¬(true=false):=by simp
  rw[if_neg htf,if_neg htf]
  by_cases hv:v<0
  ·rw[if_pos hv,if_pos hv];rfl
  ·rw[if_neg hv,if_neg hv]
   by_cases ht:v<tk op a
   ·rw[if_pos ht,if_pos ht];rfl
   ·rw[if_neg ht,if_neg ht]
    unfold d1p nsP b5q
    by_cases hn:20<v-tk op a+pt op
    ·rw[if_pos hn]
     have hd:decide (v-tk op a+pt op<=20)=false:=decide_eq_false (by omega)
     rw[hd]
     simp only[Bool.and_false,Bool.false_eq_true,if_false]
     by_cases e1:f8 op 23=true
     ·exfalso
      rw[X5]at e1
      subst e1
      rw[(h23 a).1,(h23 a).2]at hn
      omega
     ·rw[if_neg e1]
      split<;>rfl
    ·rw[if_neg hn]
     have hd:decide (v-tk op a+pt op<=20)=true:=decide_eq_true (by omega)
     rw[hd]
     simp only[Bool.and_true]
     by_cases e1:f8 op 23=true
     ·rw[if_pos e1,if_pos e1];rfl
     ·rw[if_neg e1,if_neg e1]
      by_cases e2:f8 op 22=true
      ·rw[if_pos e2,if_pos e2]
       have ha:=har (Or.inr e2)
       simp only[goP]
       rw[b7t f a _ H h0 (by omega),b3l f a _ H h0 (by omega)]
       split<;>rfl
      ·rw[if_neg e2,if_neg e2]
       by_cases e3:f8 op 21=true
       ·rw[if_pos e3,if_pos e3]
        have ha:=har (Or.inl e3)
        simp only[goP]
        rw[b7t f (i+1) _ H h0 (by omega),b3l f (i+1) _ H h0 (by omega),b7t f a _ _ h0 (by omega),b3l f a _ _ h0 (by omega)]
        split
        ·split<;>rfl
        ·rfl
       ·rw[if_neg e3,if_neg e3]
        simp only[goP]
        rw[b7t f (i+1) _ H h0 (by omega),b3l f (i+1) _ H h0 (by omega)]
        split<;>rfl
theorem c0p(ar:i6->Int->Bool)(L:List i6)(f:Int)(h0:0<=f)(har: ∀i,ar (L.getD i.toNat ⟨0,0⟩) i=true->(f8 (L.getD i.toNat ⟨0,0⟩).Op 21=true∨f8 (L.getD i.toNat ⟨0,0⟩).Op 22=true)->i+1<=(L.getD i.toNat ⟨0,0⟩).Arg): ∀(m:Nat)(i:Int)(H:List Int),f<=i->okH H->b2q ar L m i (pre f++H)=(Y8 ar L f m i H).map (pre f++ ·)
 |0,i,H,hi,ho=>rfl
 |m+1,i,H,hi,ho=>by
  rw[b2q,Y8,d9s ar L f i H h0 hi ho (har i)]
  cases hc:S4 ar L f i H with
  |none=>rfl
  |some H'=>exact c0p ar L f h0 har m (i+1) H' (by omega) (d9r ar L f i H H' ho hc)
theorem e4y(k n:Nat)(h:k<n):(R4 k n).set k [.v (.int .i64 (-1))]=R4 (k+1) n∧(R4 k n)[k]?=some [.v (.int .i64 (0))]:=by
 unfold R4
 constructor
 ·rw[List.set_append_right _ _ (by simp),List.length_replicate,Nat.sub_self,show n-k=(n-(k+1))+1 by omega,List.replicate_succ,List.set_cons_zero,List.replicate_succ',List.append_assoc]
  rfl
 ·rw[List.getElem?_append_right (by simp),List.length_replicate,Nat.sub_self,show n-k=(n-(k+1))+1 by omega,List.replicate_succ]
  rfl
theorem c0q(d1 d2:D)(cb cl ce f e:Int)(N:Nat)(hN:N<=1000): ∀(m k:Nat),k+m=N->
  g8 Tryz.prog T1 (c6 Tryz.prog T1 L1) 65 (cq Tryz.f65 [0,0,1,0,1,1]) ⟨[J,.one (.c (.d (.v (.int .i64 (f))))),.one (.c (.d (.v (.int .i64 (e))))),.one (.c (.ptr 0 0 0)),J,J,J,.one (.c (.arr 1 0 N)),J,J,J,J,J,J,J,J,J,J,J,J,.one (.c (.d (.v (.int .i64 ((N:Int)))))),.one (.c (.d (.v (.int .i64 ((k:Int)))))),J,J,J,J,J,J,J,J,J,J,J,J,J,J,J,J,J,J,J,J,J,J,J,J,J,J,J,J,J,J,J,J,J,J,J,J,J,J,J,J,J,J,J,J,J,J,J,J,J,J,J,J,J,J,J,J,J,J,J,J,J,J,J,J,J,J,J,J,J,J,J,J,J,J,J,J,J,J,J,J,J,J,J,J,J,J,J,J,J,J,J,J,J,J,J,J,J,J,J,J,J,J,J,J,J,J,J,J,J,J,J,J,J,J,J,J,J,J,J,J,J,J,J,J,J,J,J,J,J,J],c7 [some (.var [.d d1,.d d2,.d (.v (.int .i64 (cb))),.d (.v (.int .i64 (cl))),.d (.v (.int .i64 (ce)))]),some (.arr 1 (R4 k N))],2,0⟩=some (.exit 0,⟨[J,.one (.c (.d (.v (.int .i64 (f))))),.one (.c (.d (.v (.int .i64 (e))))),.one (.c (.ptr 0 0 0)),J,J,J,.one (.c (.arr 1 0 N)),J,J,J,J,J,J,J,J,J,J,J,J,J,J,J,J,J,J,J,J,J,J,J,J,J,J,J,J,J,J,J,J,J,J,J,J,J,J,J,J,J,J,J,J,J,J,J,J,J,J,J,J,J,J,J,J,J,J,J,J,J,J,J,J,J,J,J,J,J,J,J,J,J,J,J,J,J,J,J,J,J,J,J,J,J,J,J,J,J,J,J,J,J,J,J,J,J,J,J,J,J,J,J,J,J,J,J,J,J,J,J,J,J,J,J,J,J,J,J,J,J,J,J,J,J,J,J,J,J,J,J,J,J,J,J,J,J,J,J,J,J,J,J,J],c7 [some (.var [.d d1,.d d2,.d (.v (.int .i64 (cb))),.d (.v (.int .i64 (cl))),.d (.v (.int .i64 (ce)))]),some (.arr 1 (R4 N N))],2,0⟩)
 |0,k,h=>by
  have:k=N:=by omega
  subst this
  exact lp Y2
 |m+1,k,h=>by
  have ih:=c0q d1 d2 cb cl ce f e N hN m (k+1) (by omega)
  obtain⟨r1,r2⟩:=e4y k N (by omega)
  have e1:((k+1:Nat):Int)=(k:Int)+1:=by omega
  have hk:k<N:=by omega
  rw[e1]at ih
  rw[<-ih,<-r1]
  clear ih h r1 e1
  generalize R4 k N=R at*
  exact lp Y2
theorem d1u(rd:List UInt8->Bool)(hR:C5 82 rd)(c:n8)(p q:Bool)(f e:Int)(h0:0<=f)(h1:f<=e)(hp:d1s c e (e+1).toNat):c6 Tryz.prog T1 L1 65 [.agg [.d (c8 p 1 (rS c.Texts)),.d (c8 q 2 (g9 c.List)),.d (.v (.int .i64 (c.Begin))),.d (.v (.int .i64 (c.Line))),.d (.v (.int .i64 (c.End)))],.c (.d (.v (.int .i64 (f)))),.c (.d (.v (.int .i64 (e))))] []=some (.one (.c (.d (.v (.bool (I1 (arS rd c.Texts e) c.List f e))))),[]):=by
 have b1:=hp.b1
 have b2:=hp.b2
 have b3:=hp.b3
 have hinit:pre f++(0::List.replicate (e-f).toNat (-1))=(List.replicate (e+1).toNat (-1)).set f.toNat 0:=by
  unfold pre
  rw[show(e+1).toNat=f.toNat+((e-f).toNat+1) by omega,<-List.replicate_append_replicate,List.set_append_right _ _ (by simp),List.length_replicate,Nat.sub_self,List.replicate_succ]
  rfl
 have hoH:okH (0::List.replicate (e-f).toNat (-1)):=fun v hv=>by
  rcases List.mem_cons.1 hv with h|h
  ·subst h;omega
  ·obtain⟨_,h⟩:=List.mem_replicate.1 h;subst h;omega
 have heq:=c0p (arS rd c.Texts e) c.List f h0 (fun i h hj=>by
  unfold arS at h
  simp only[Bool.and_eq_true]at h
  exact(b2p rd c.Texts _ _ i e h.2 hj).1) (e-f).toNat f (0::List.replicate (e-f).toNat (-1)) (by omega) hoH
 have Lp:=b7s rd hR c p q e _ hp (e-f).toNat f (pre f++(0::List.replicate (e-f).toNat (-1))) (by unfold pre;simp;omega) (fun v hv=>by
  rcases List.mem_append.1 hv with h|h
  ·obtain⟨_,h⟩:=List.mem_replicate.1 h;subst h;omega
  ·exact hoH v h) h0 (by omega)
 have Lf:=c0q (c8 p 1 (rS c.Texts)) (c8 q 2 (g9 c.List)) c.Begin c.Line c.End f e (e+1).toNat (by omega) (e+1).toNat 0 (by omega)
 have er:R4 (e+1).toNat (e+1).toNat=rI (List.replicate (e+1).toNat (-1)):=by simp[R4,rI]
 have er0:R4 0 (e+1).toNat=List.replicate (e+1).toNat [.v (.int .i64 (0))]:=by simp[R4]
 have hset:=c3r (List.replicate (e+1).toNat (-1)) f.toNat 0
 have hg0:=a4d (List.replicate (e+1).toNat (-1)) f.toNat (by simp;omega)
 have hroom:room=70368744177664:=rfl
 have hlen:f<((e+1).toNat:Int):=by omega
 have hlen2:e<((e+1).toNat:Int):=by omega
 have hn3:(((e+1).toNat:Nat):Int)=e+1:=by omega
 have c0:((0:Nat):Int)=0:=rfl
 rw[hinit]at Lp
 rw[er,er0,c0,hn3]at Lf
 unfold I1
 unfold lpS sA sE sR at Lp
 have hle: ∀G:List Int,G.length=(e+1).toNat->(rI G)[e.toNat]?=some [.v (.int .i64 (G.getD e.toNat 0))]:=fun G hG=>a4d G _ (by omega)
 rw[hinit]at heq
 have hb400:(e+1).toNat<=400:=by omega
 clear hp hR er er0 c0 hoH
 generalize c8 q 2 (g9 c.List)=d2 at*
 generalize c8 p 1 (rS c.Texts)=d1 at*
 generalize (List.replicate (e+1).toNat (-1)).getD f.toNat 0=v0 at*
 generalize rI (List.replicate (e+1).toNat (-1))=R1 at*
 cases hc:Y8 (arS rd c.Texts e) c.List f (e-f).toNat f (0::List.replicate (e-f).toNat (-1))with
 |none=>
  rw[hc]at heq
  rw[heq]at Lp
  obtain⟨G',Lp⟩:=Lp
  clear hc hle heq hinit
  generalize rI G'=R2 at Lp
  generalize rI ((List.replicate (e+1).toNat (-1)).set f.toNat 0)=R3 at*
  exact fn Y2 Tryz.func65
 |some Hf=>
  rw[hc]at heq
  rw[heq]at Lp
  obtain⟨g1,g2,Lp⟩:=Lp
  have hg:=hle _ g1
  have hbv:=a9x g2 e.toNat
  rw[b8s f e Hf h0 h1]at hg hbv
  clear hc hle g1 g2 heq hinit
  simp only
  generalize Hf.getD (e-f).toNat 0=v at hg hbv⊢
  generalize rI (pre f++Hf)=R2 at hg Lp
  generalize rI ((List.replicate (e+1).toNat (-1)).set f.toNat 0)=R3 at*
  exact fn Y2 Tryz.func65
end
end Go.Vsi
