/- What the functions of the program, of the reference and of the law do (a part of it). -/
import Derived.Test.YtbjkeppbogdgcaaGreatZY1
namespace Go.Vsi
open Go.Proofs
noncomputable section
set_option maxRecDepth 100000
set_option maxHeartbeats 4000000
set_option linter.unusedSimpArgs false
set_option linter.unusedVariables false
attribute [local go_sem ↓] v6
def mkd:Nat->Int->List UInt8->List UInt8
 |0,_,o=>o
 |f+1,k,o=>if k<=0 then o else mkd f (k.tdiv 10) (UInt8.ofNat (48+k.tmod 10).toNat::o)
theorem c7r: ∀(f:Nat)(k:Int)(o:List UInt8),(mkd f k o).length<=f+o.length
 |0,_,_=>by simp[mkd]
 |f+1,k,o=>by
  unfold mkd
  split
  ·omega
  ·have:=c7r f (k.tdiv 10) (UInt8.ofNat (48+k.tmod 10).toNat::o)
   simp at this
   omega
theorem f5m(k:Int)(h:0<k):0<=k.tdiv 10∧k.tdiv 10*10<=k∧0<=k.tmod 10∧k.tmod 10<10:=by
 rw[Int.tdiv_eq_ediv_of_nonneg (by omega),Int.tmod_eq_emod_of_nonneg (by omega)]
 omega
theorem b1j: ∀(f:Nat)(k:Int)(o:List UInt8),0<=k->k<10^f->f<=18->o.length+f<=100->
 g8 Tryz.prog T1 (c6 Tryz.prog T1 L1) 49 (cq Tryz.f49 [0,0,0,1,1,1]) ⟨[.one (.c (.d (.v (.int .i64 (k))))),J,J,.one (.c (.d (.v (.string (B (o)))))),J,J,J,J,J,J,J,J,J,J,J,J,J,J,J,J],c7 [],0,0⟩=some (.exit 0,⟨[J,J,J,.one (.c (.d (.v (.string (B (mkd f k o)))))),J,J,J,J,J,J,J,J,J,J,J,J,J,J,J,J],c7 [],0,0⟩)
 |0,k,o,h0,h1,hf,ho=>by
  have hk:k=0:=by simp at h1;omega
  subst hk
  simp only[mkd]
  exact lp V49
 |f+1,k,o,h0,h1,hf,ho=>by
  by_cases hk:k=0
  ·subst hk
   simp only[mkd,Int.le_refl,if_true]
   exact lp V49
  ·obtain⟨d1,d2,d3,d4⟩:=f5m k (by omega)
   have hp:k<10*10^f:=by rw[Int.pow_succ]at h1;omega
   have hmax:(10:Int)^f<=10^17:=by
    have:f<=17:=by omega
    exact_mod_cast Nat.pow_le_pow_right (by omega) this
   have ih:=b1j f (k.tdiv 10) (UInt8.ofNat (48+k.tmod 10).toNat::o) d1 (by omega) (by omega) (by simp;omega)
   have hn:(10:Int)≠0:=by decide
   have e:mkd (f+1) k o=mkd f (k.tdiv 10) (UInt8.ofNat (48+k.tmod 10).toNat::o):=by
    rw[mkd,if_neg (by omega)]
   rw[e]
   clear e hp
   generalize hq:k.tdiv 10=q at ih d1 d2
   generalize hr:k.tmod 10=r at ih d3 d4
   have hb:k<=1000000000000000000:=by omega
   clear hmax h1
   exact lp V49
def mT(k:Int):List UInt8:=if k<=0 then[109,48]else 109::mkd 18 k []
theorem D5(k:Int)(h:k<=1000000000):c6 Tryz.prog T1 L1 49 [.c (.d (.v (.int .i64 (k))))] []=some (.one (.c (.d (.v (.string (B (mT k)))))),[]):=by
 unfold mT
 by_cases hk:k<=0
 ·rw[if_pos hk]
  exact fn V49 Tryz.func49
 ·rw[if_neg hk]
  have L:=b1j 18 k [] (by omega) (by omega) (by omega) (by simp)
  have hl:=c7r 18 k []
  generalize mkd 18 k []=s at L hl
  simp at hl
  exact fn V49 Tryz.func49
theorem d0z(x:i6):c6 Tryz.prog T1 L1 62 [.agg (x.enc.map .d),.agg (x.enc.map .d)] []=some (.one (.c (.d (.v (.bool (true))))),[]):=by
 simp only[i6.enc,List.map_cons,List.map_nil]
 exact fn V62 Tryz.func62
theorem d9h(x:v9):c6 Tryz.prog T1 L1 63 [.agg (x.enc.map .d),.agg (x.enc.map .d)] []=some (.one (.c (.d (.v (.bool (true))))),[]):=by
 simp only[v9.enc,List.map_cons,List.map_nil]
 exact fn V63 Tryz.func63
theorem d4x(x:q9):c6 Tryz.prog T1 L1 64 [.agg (x.enc.map .d),.agg (x.enc.map .d)] []=some (.one (.c (.d (.v (.bool (true))))),[]):=by
 simp only[q9.enc,List.map_cons,List.map_nil]
 exact fn V64 Tryz.func64
theorem a9t(xs:List (List UInt8))(hx:xs.length<=1048576): ∀(m:Nat)(i:Int),0<=i->i+m=xs.length->
 g8 Tryz.prog T1 (c6 Tryz.prog T1 L1) 22 (cq Tryz.f22 [0,0,1,0,1,1]) ⟨[.one (.c (.d (.sl 1 (rS xs)))),.one (.c (.d (.sl 1 (rS xs)))),J,J,J,.one (.c (.d (.v (.int .i64 (i))))),J,J,J,J,J,J,J,J,J,J,J,J,J,J,J,J,J,J,J,J],c7 [],0,0⟩=some (.exit 0,⟨[J,J,J,J,J,J,J,J,J,J,J,J,J,J,J,J,J,J,J,J,J,J,J,J,J,J],c7 [],0,0⟩)
 |0,i,h0,hm=>by
  exact lp V22
 |m+1,i,h0,hm=>by
  have hil:i.toNat<xs.length:=by omega
  have ih:=a9t xs hx m (i+1) (by omega) (by omega)
  have hg:=e9m xs i.toNat hil
  generalize xs[i.toNat]=x at hg
  rw[<-ih]
  clear ih
  exact lp V22
theorem b2k(xs:List (List UInt8))(hx:xs.length<=1048576):c6 Tryz.prog T1 L1 22 [.c (.d (.sl 1 (rS xs))),.c (.d (.sl 1 (rS xs)))] []=some (.one (.c (.d (.v (.bool (true))))),[]):=by
 have Lp:=a9t xs hx xs.length 0 (by omega) (by omega)
 exact fn V22 Tryz.func22
theorem b1k(xs:List (i6))(hx:xs.length<=1048576): ∀(m:Nat)(i:Int),0<=i->i+m=xs.length->
 g8 Tryz.prog T1 (c6 Tryz.prog T1 L1) 43 (cq Tryz.f43 [0,0,1,0,1,1]) ⟨[.one (.c (.d (.sl 2 (g9 xs)))),.one (.c (.d (.sl 2 (g9 xs)))),J,J,J,.one (.c (.d (.v (.int .i64 (i))))),J,J,J,J,J,J,J,J,J,J,J,J,J,J,J,J,J,J,J,J,J],c7 [],0,0⟩=some (.exit 0,⟨[J,J,J,J,J,J,J,J,J,J,J,J,J,J,J,J,J,J,J,J,J,J,J,J,J,J,J],c7 [],0,0⟩)
 |0,i,h0,hm=>by
  exact lp V43
 |m+1,i,h0,hm=>by
  have hil:i.toNat<xs.length:=by omega
  have ih:=b1k xs hx m (i+1) (by omega) (by omega)
  have hg:=e4p xs i.toNat hil
  have h3:=d0z xs[i.toNat]
  generalize xs[i.toNat]=x at hg h3
  simp only[i6.enc,List.map_cons,List.map_nil]at hg h3
  rw[<-ih]
  clear ih
  exact lp V43
theorem b4i(xs:List (i6))(hx:xs.length<=1048576):c6 Tryz.prog T1 L1 43 [.c (.d (.sl 2 (g9 xs))),.c (.d (.sl 2 (g9 xs)))] []=some (.one (.c (.d (.v (.bool (true))))),[]):=by
 have Lp:=b1k xs hx xs.length 0 (by omega) (by omega)
 exact fn V43 Tryz.func43
theorem b4j(xs:List (v9))(hx:xs.length<=1048576): ∀(m:Nat)(i:Int),0<=i->i+m=xs.length->
 g8 Tryz.prog T1 (c6 Tryz.prog T1 L1) 44 (cq Tryz.f44 [0,0,1,0,1,1]) ⟨[.one (.c (.d (.sl 2 (rV xs)))),.one (.c (.d (.sl 2 (rV xs)))),J,J,J,.one (.c (.d (.v (.int .i64 (i))))),J,J,J,J,J,J,J,J,J,J,J,J,J,J,J,J,J,J,J,J,J],c7 [],0,0⟩=some (.exit 0,⟨[J,J,J,J,J,J,J,J,J,J,J,J,J,J,J,J,J,J,J,J,J,J,J,J,J,J,J],c7 [],0,0⟩)
 |0,i,h0,hm=>by
  exact lp V44
 |m+1,i,h0,hm=>by
  have hil:i.toNat<xs.length:=by omega
  have ih:=b4j xs hx m (i+1) (by omega) (by omega)
  have hg:=e9o xs i.toNat hil
  have h3:=d9h xs[i.toNat]
  generalize xs[i.toNat]=x at hg h3
  simp only[v9.enc,List.map_cons,List.map_nil]at hg h3
  rw[<-ih]
  clear ih
  exact lp V44
theorem c0m(xs:List (v9))(hx:xs.length<=1048576):c6 Tryz.prog T1 L1 44 [.c (.d (.sl 2 (rV xs))),.c (.d (.sl 2 (rV xs)))] []=some (.one (.c (.d (.v (.bool (true))))),[]):=by
 have Lp:=b4j xs hx xs.length 0 (by omega) (by omega)
 exact fn V44 Tryz.func44
theorem b2l(xs:List (q9))(hx:xs.length<=1048576): ∀(m:Nat)(i:Int),0<=i->i+m=xs.length->
 g8 Tryz.prog T1 (c6 Tryz.prog T1 L1) 45 (cq Tryz.f45 [0,0,1,0,1,1]) ⟨[.one (.c (.d (.sl 3 (rC xs)))),.one (.c (.d (.sl 3 (rC xs)))),J,J,J,.one (.c (.d (.v (.int .i64 (i))))),J,J,J,J,J,J,J,J,J,J,J,J,J,J,J,J,J,J,J,J,J],c7 [],0,0⟩=some (.exit 0,⟨[J,J,J,J,J,J,J,J,J,J,J,J,J,J,J,J,J,J,J,J,J,J,J,J,J,J,J],c7 [],0,0⟩)
 |0,i,h0,hm=>by
  exact lp V45
 |m+1,i,h0,hm=>by
  have hil:i.toNat<xs.length:=by omega
  have ih:=b2l xs hx m (i+1) (by omega) (by omega)
  have hg:=e9q xs i.toNat hil
  have h3:=d4x xs[i.toNat]
  generalize xs[i.toNat]=x at hg h3
  simp only[q9.enc,List.map_cons,List.map_nil]at hg h3
  rw[<-ih]
  clear ih
  exact lp V45
theorem b7n(xs:List (q9))(hx:xs.length<=1048576):c6 Tryz.prog T1 L1 45 [.c (.d (.sl 3 (rC xs))),.c (.d (.sl 3 (rC xs)))] []=some (.one (.c (.d (.v (.bool (true))))),[]):=by
 have Lp:=b2l xs hx xs.length 0 (by omega) (by omega)
 exact fn V45 Tryz.func45
theorem b8m:c6 Tryz.prog T1 L1 22 [.c (.d (.v (.slice none 0 0))),.c (.d (.sl 1 []))] []=some (.one (.c (.d (.v (.bool (true))))),[]):=by
 have h:g8 Tryz.prog T1 (c6 Tryz.prog T1 L1) 22 (cq Tryz.f22 [0,0,1,0,1,1]) ⟨[.one (.c (.d (.v (.slice none 0 0)))),.one (.c (.d (.sl 1 []))),J,J,J,.one (.c (.d (.v (.int .i64 (0))))),J,J,J,J,J,J,J,J,J,J,J,J,J,J,J,J,J,J,J,J],c7 [],0,0⟩=some (.exit 0,⟨[J,J,J,J,J,J,J,J,J,J,J,J,J,J,J,J,J,J,J,J,J,J,J,J,J,J],c7 [],0,0⟩):=by
  exact lp V22
 exact fn V22 Tryz.func22
theorem b8n:c6 Tryz.prog T1 L1 22 [.c (.d (.sl 1 [])),.c (.d (.v (.slice none 0 0)))] []=some (.one (.c (.d (.v (.bool (true))))),[]):=by
 have h:g8 Tryz.prog T1 (c6 Tryz.prog T1 L1) 22 (cq Tryz.f22 [0,0,1,0,1,1]) ⟨[.one (.c (.d (.sl 1 []))),.one (.c (.d (.v (.slice none 0 0)))),J,J,J,.one (.c (.d (.v (.int .i64 (0))))),J,J,J,J,J,J,J,J,J,J,J,J,J,J,J,J,J,J,J,J],c7 [],0,0⟩=some (.exit 0,⟨[J,J,J,J,J,J,J,J,J,J,J,J,J,J,J,J,J,J,J,J,J,J,J,J,J,J],c7 [],0,0⟩):=by
  exact lp V22
 exact fn V22 Tryz.func22
theorem b8o:c6 Tryz.prog T1 L1 22 [.c (.d (.v (.slice none 0 0))),.c (.d (.v (.slice none 0 0)))] []=some (.one (.c (.d (.v (.bool (true))))),[]):=by
 have h:g8 Tryz.prog T1 (c6 Tryz.prog T1 L1) 22 (cq Tryz.f22 [0,0,1,0,1,1]) ⟨[.one (.c (.d (.v (.slice none 0 0)))),.one (.c (.d (.v (.slice none 0 0)))),J,J,J,.one (.c (.d (.v (.int .i64 (0))))),J,J,J,J,J,J,J,J,J,J,J,J,J,J,J,J,J,J,J,J],c7 [],0,0⟩=some (.exit 0,⟨[J,J,J,J,J,J,J,J,J,J,J,J,J,J,J,J,J,J,J,J,J,J,J,J,J,J],c7 [],0,0⟩):=by
  exact lp V22
 exact fn V22 Tryz.func22
theorem a8z(p q:Bool)(xs:List (List UInt8))(hx:xs.length<=1048576):c6 Tryz.prog T1 L1 22 [.c (.d (c8 p 1 (rS xs))),.c (.d (c8 q 1 (rS xs)))] []=some (.one (.c (.d (.v (.bool (true))))),[]):=by
 cases xs with
 |nil=>
  cases p<;>cases q
  ·exact b2k [] hx
  ·exact b8n
  ·exact b8m
  ·exact b8o
 |cons x xs=>
  rw[o7 p _ _ (by simp[rS]),o7 q _ _ (by simp[rS])]
  exact b2k (x::xs) hx
theorem c1i:c6 Tryz.prog T1 L1 43 [.c (.d (.v (.slice none 0 0))),.c (.d (.sl 2 []))] []=some (.one (.c (.d (.v (.bool (true))))),[]):=by
 have h:g8 Tryz.prog T1 (c6 Tryz.prog T1 L1) 43 (cq Tryz.f43 [0,0,1,0,1,1]) ⟨[.one (.c (.d (.v (.slice none 0 0)))),.one (.c (.d (.sl 2 []))),J,J,J,.one (.c (.d (.v (.int .i64 (0))))),J,J,J,J,J,J,J,J,J,J,J,J,J,J,J,J,J,J,J,J,J],c7 [],0,0⟩=some (.exit 0,⟨[J,J,J,J,J,J,J,J,J,J,J,J,J,J,J,J,J,J,J,J,J,J,J,J,J,J,J],c7 [],0,0⟩):=by
  exact lp V43
 exact fn V43 Tryz.func43
theorem c1j:c6 Tryz.prog T1 L1 43 [.c (.d (.sl 2 [])),.c (.d (.v (.slice none 0 0)))] []=some (.one (.c (.d (.v (.bool (true))))),[]):=by
 have h:g8 Tryz.prog T1 (c6 Tryz.prog T1 L1) 43 (cq Tryz.f43 [0,0,1,0,1,1]) ⟨[.one (.c (.d (.sl 2 []))),.one (.c (.d (.v (.slice none 0 0)))),J,J,J,.one (.c (.d (.v (.int .i64 (0))))),J,J,J,J,J,J,J,J,J,J,J,J,J,J,J,J,J,J,J,J,J],c7 [],0,0⟩=some (.exit 0,⟨[J,J,J,J,J,J,J,J,J,J,J,J,J,J,J,J,J,J,J,J,J,J,J,J,J,J,J],c7 [],0,0⟩):=by
  exact lp V43
 exact fn V43 Tryz.func43
theorem c1k:c6 Tryz.prog T1 L1 43 [.c (.d (.v (.slice none 0 0))),.c (.d (.v (.slice none 0 0)))] []=some (.one (.c (.d (.v (.bool (true))))),[]):=by
 have h:g8 Tryz.prog T1 (c6 Tryz.prog T1 L1) 43 (cq Tryz.f43 [0,0,1,0,1,1]) ⟨[.one (.c (.d (.v (.slice none 0 0)))),.one (.c (.d (.v (.slice none 0 0)))),J,J,J,.one (.c (.d (.v (.int .i64 (0))))),J,J,J,J,J,J,J,J,J,J,J,J,J,J,J,J,J,J,J,J,J],c7 [],0,0⟩=some (.exit 0,⟨[J,J,J,J,J,J,J,J,J,J,J,J,J,J,J,J,J,J,J,J,J,J,J,J,J,J,J],c7 [],0,0⟩):=by
  exact lp V43
 exact fn V43 Tryz.func43
theorem d1a(p q:Bool)(xs:List i6)(hx:xs.length<=1048576):c6 Tryz.prog T1 L1 43 [.c (.d (c8 p 2 (g9 xs))),.c (.d (c8 q 2 (g9 xs)))] []=some (.one (.c (.d (.v (.bool (true))))),[]):=by
 cases xs with
 |nil=>
  cases p<;>cases q
  ·exact b4i [] hx
  ·exact c1j
  ·exact c1i
  ·exact c1k
 |cons x xs=>
  rw[o7 p _ _ (by simp[g9]),o7 q _ _ (by simp[g9])]
  exact b4i (x::xs) hx
theorem c5t:c6 Tryz.prog T1 L1 44 [.c (.d (.v (.slice none 0 0))),.c (.d (.sl 2 []))] []=some (.one (.c (.d (.v (.bool (true))))),[]):=by
 have h:g8 Tryz.prog T1 (c6 Tryz.prog T1 L1) 44 (cq Tryz.f44 [0,0,1,0,1,1]) ⟨[.one (.c (.d (.v (.slice none 0 0)))),.one (.c (.d (.sl 2 []))),J,J,J,.one (.c (.d (.v (.int .i64 (0))))),J,J,J,J,J,J,J,J,J,J,J,J,J,J,J,J,J,J,J,J,J],c7 [],0,0⟩=some (.exit 0,⟨[J,J,J,J,J,J,J,J,J,J,J,J,J,J,J,J,J,J,J,J,J,J,J,J,J,J,J],c7 [],0,0⟩):=by
  exact lp V44
 exact fn V44 Tryz.func44
theorem c5u:c6 Tryz.prog T1 L1 44 [.c (.d (.sl 2 [])),.c (.d (.v (.slice none 0 0)))] []=some (.one (.c (.d (.v (.bool (true))))),[]):=by
 have h:g8 Tryz.prog T1 (c6 Tryz.prog T1 L1) 44 (cq Tryz.f44 [0,0,1,0,1,1]) ⟨[.one (.c (.d (.sl 2 []))),.one (.c (.d (.v (.slice none 0 0)))),J,J,J,.one (.c (.d (.v (.int .i64 (0))))),J,J,J,J,J,J,J,J,J,J,J,J,J,J,J,J,J,J,J,J,J],c7 [],0,0⟩=some (.exit 0,⟨[J,J,J,J,J,J,J,J,J,J,J,J,J,J,J,J,J,J,J,J,J,J,J,J,J,J,J],c7 [],0,0⟩):=by
  exact lp V44
 exact fn V44 Tryz.func44
theorem c5v:c6 Tryz.prog T1 L1 44 [.c (.d (.v (.slice none 0 0))),.c (.d (.v (.slice none 0 0)))] []=some (.one (.c (.d (.v (.bool (true))))),[]):=by
 have h:g8 Tryz.prog T1 (c6 Tryz.prog T1 L1) 44 (cq Tryz.f44 [0,0,1,0,1,1]) ⟨[.one (.c (.d (.v (.slice none 0 0)))),.one (.c (.d (.v (.slice none 0 0)))),J,J,J,.one (.c (.d (.v (.int .i64 (0))))),J,J,J,J,J,J,J,J,J,J,J,J,J,J,J,J,J,J,J,J,J],c7 [],0,0⟩=some (.exit 0,⟨[J,J,J,J,J,J,J,J,J,J,J,J,J,J,J,J,J,J,J,J,J,J,J,J,J,J,J],c7 [],0,0⟩):=by
  exact lp V44
 exact fn V44 Tryz.func44
theorem d9i(p q:Bool)(xs:List v9)(hx:xs.length<=1048576):c6 Tryz.prog T1 L1 44 [.c (.d (c8 p 2 (rV xs))),.c (.d (c8 q 2 (rV xs)))] []=some (.one (.c (.d (.v (.bool (true))))),[]):=by
 cases xs with
 |nil=>
  cases p<;>cases q
  ·exact c0m [] hx
  ·exact c5u
  ·exact c5t
  ·exact c5v
 |cons x xs=>
  rw[o7 p _ _ (by simp[rV]),o7 q _ _ (by simp[rV])]
  exact c0m (x::xs) hx
theorem c3k:c6 Tryz.prog T1 L1 45 [.c (.d (.v (.slice none 0 0))),.c (.d (.sl 3 []))] []=some (.one (.c (.d (.v (.bool (true))))),[]):=by
 have h:g8 Tryz.prog T1 (c6 Tryz.prog T1 L1) 45 (cq Tryz.f45 [0,0,1,0,1,1]) ⟨[.one (.c (.d (.v (.slice none 0 0)))),.one (.c (.d (.sl 3 []))),J,J,J,.one (.c (.d (.v (.int .i64 (0))))),J,J,J,J,J,J,J,J,J,J,J,J,J,J,J,J,J,J,J,J,J],c7 [],0,0⟩=some (.exit 0,⟨[J,J,J,J,J,J,J,J,J,J,J,J,J,J,J,J,J,J,J,J,J,J,J,J,J,J,J],c7 [],0,0⟩):=by
  exact lp V45
 exact fn V45 Tryz.func45
theorem c3l:c6 Tryz.prog T1 L1 45 [.c (.d (.sl 3 [])),.c (.d (.v (.slice none 0 0)))] []=some (.one (.c (.d (.v (.bool (true))))),[]):=by
 have h:g8 Tryz.prog T1 (c6 Tryz.prog T1 L1) 45 (cq Tryz.f45 [0,0,1,0,1,1]) ⟨[.one (.c (.d (.sl 3 []))),.one (.c (.d (.v (.slice none 0 0)))),J,J,J,.one (.c (.d (.v (.int .i64 (0))))),J,J,J,J,J,J,J,J,J,J,J,J,J,J,J,J,J,J,J,J,J],c7 [],0,0⟩=some (.exit 0,⟨[J,J,J,J,J,J,J,J,J,J,J,J,J,J,J,J,J,J,J,J,J,J,J,J,J,J,J],c7 [],0,0⟩):=by
  exact lp V45
 exact fn V45 Tryz.func45
theorem c3m:c6 Tryz.prog T1 L1 45 [.c (.d (.v (.slice none 0 0))),.c (.d (.v (.slice none 0 0)))] []=some (.one (.c (.d (.v (.bool (true))))),[]):=by
 have h:g8 Tryz.prog T1 (c6 Tryz.prog T1 L1) 45 (cq Tryz.f45 [0,0,1,0,1,1]) ⟨[.one (.c (.d (.v (.slice none 0 0)))),.one (.c (.d (.v (.slice none 0 0)))),J,J,J,.one (.c (.d (.v (.int .i64 (0))))),J,J,J,J,J,J,J,J,J,J,J,J,J,J,J,J,J,J,J,J,J],c7 [],0,0⟩=some (.exit 0,⟨[J,J,J,J,J,J,J,J,J,J,J,J,J,J,J,J,J,J,J,J,J,J,J,J,J,J,J],c7 [],0,0⟩):=by
  exact lp V45
 exact fn V45 Tryz.func45
theorem d4y(p q:Bool)(xs:List q9)(hx:xs.length<=1048576):c6 Tryz.prog T1 L1 45 [.c (.d (c8 p 3 (rC xs))),.c (.d (c8 q 3 (rC xs)))] []=some (.one (.c (.d (.v (.bool (true))))),[]):=by
 cases xs with
 |nil=>
  cases p<;>cases q
  ·exact b7n [] hx
  ·exact c3l
  ·exact c3k
  ·exact c3m
 |cons x xs=>
  rw[o7 p _ _ (by simp[rC]),o7 q _ _ (by simp[rC])]
  exact b7n (x::xs) hx
theorem d9j(a b c d:D)(x:n8)(h1:c6 Tryz.prog T1 L1 22 [.c (.d a),.c (.d b)] []=some (.one (.c (.d (.v (.bool (true))))),[]))(h2:c6 Tryz.prog T1 L1 43 [.c (.d c),.c (.d d)] []=some (.one (.c (.d (.v (.bool (true))))),[])):c6 Tryz.prog T1 L1 20 [.agg [.d a,.d c,.d (.v (.int .i64 (x.Begin))),.d (.v (.int .i64 (x.Line))),.d (.v (.int .i64 (x.End)))],.agg [.d b,.d d,.d (.v (.int .i64 (x.Begin))),.d (.v (.int .i64 (x.Line))),.d (.v (.int .i64 (x.End)))]] []=some (.one (.c (.d (.v (.bool (true))))),[]):=by
 exact fn V20 Tryz.func20
theorem d4z(a b c d:D)(x:s8)(h1:c6 Tryz.prog T1 L1 44 [.c (.d a),.c (.d b)] []=some (.one (.c (.d (.v (.bool (true))))),[]))(h2:c6 Tryz.prog T1 L1 45 [.c (.d c),.c (.d d)] []=some (.one (.c (.d (.v (.bool (true))))),[])):c6 Tryz.prog T1 L1 21 [.agg [.d a,.d c,.d (.v (.string (B (x.Out))))],.agg [.d b,.d d,.d (.v (.string (B (x.Out))))]] []=some (.one (.c (.d (.v (.bool (true))))),[]):=by
 exact fn V21 Tryz.func21
def x9(p1 p2 p3 p4 p5 p6:Bool)(x:C6):List S:=[.d (c8 p1 1 (rS x.Code.Texts)),.d (c8 p2 2 (g9 x.Code.List)),.d (.v (.int .i64 (x.Code.Begin))),.d (.v (.int .i64 (x.Code.Line))),.d (.v (.int .i64 (x.Code.End))),.d (c8 p3 2 (rV x.Begin.Vars)),.d (c8 p4 3 (rC x.Begin.Cells)),.d (.v (.string (B (x.Begin.Out)))),.d (c8 p5 1 (rS x.Names)),.d (c8 p6 1 (rS x.Lines))]
def f8d(x:C6):Prop:=x.Code.Texts.length<=1000∧x.Code.List.length<=1000∧x.Begin.Vars.length<=1000∧x.Begin.Cells.length<=10000∧x.Names.length<=1000∧x.Lines.length<=1000
theorem H0(x:C6)(hx:f8d x)(p1 p2 p3 p4 p5 p6 q1 q2 q3 q4 q5 q6:Bool):c6 Tryz.prog T1 L1 6 [.agg (x9 p1 p2 p3 p4 p5 p6 x),.agg (x9 q1 q2 q3 q4 q5 q6 x)] []=some (.one (.c (.d (.v (.bool (true))))),[]):=by
 obtain⟨b1,b2,b3,b4,b5,b6⟩:=hx
 have e1:=d9j _ _ _ _ x.Code (a8z p1 q1 x.Code.Texts (by omega)) (d1a p2 q2 x.Code.List (by omega))
 have e2:=d4z _ _ _ _ x.Begin (d9i p3 q3 x.Begin.Vars (by omega)) (d4y p4 q4 x.Begin.Cells (by omega))
 have e3:=a8z p5 q5 x.Names (by omega)
 have e4:=a8z p6 q6 x.Lines (by omega)
 unfold x9
 exact fn V6 Tryz.func6
end
end Go.Vsi
namespace Go.Vsi
open Go.Proofs
noncomputable section
set_option maxRecDepth 100000
set_option maxHeartbeats 4000000
set_option linter.unusedSimpArgs false
set_option linter.unusedVariables false
attribute [local go_sem ↓] v6
def mS:Nat->Int->List (List UInt8)
 |0,_=>[]
 |n+1,k=>mT k::mS n (k+1)
def mIn:Nat->Int->List i6
 |0,_=>[]
 |n+1,k=>⟨k,k+1⟩::mIn n (k+1+1)
def mV:Nat->Int->List v9
 |0,_=>[]
 |n+1,k=>⟨mT k,mT (k+1)⟩::mV n (k+1+1)
def mC:Nat->Int->List q9
 |0,_=>[]
 |n+1,k=>⟨mT k,mT (k+1),mT (k+1+1)⟩::mC n (k+1+1+1)
theorem b7o: ∀(n:Nat)(k:Int),(mS n k).length=n
 |0,_=>rfl
 |n+1,k=>by simp[mS,b7o n]
theorem b3h: ∀(n:Nat)(k:Int),(mIn n k).length=n
 |0,_=>rfl
 |n+1,k=>by simp[mIn,b3h n]
theorem b7p: ∀(n:Nat)(k:Int),(mV n k).length=n
 |0,_=>rfl
 |n+1,k=>by simp[mV,b7p n]
theorem b7q: ∀(n:Nat)(k:Int),(mC n k).length=n
 |0,_=>rfl
 |n+1,k=>by simp[mC,b7q n]
theorem a7h: ∀(xs:List (List UInt8))(A:List (List D))(i k:Int)(n:Nat),i=A.length->n=A.length+xs.length->n<=1048576->0<=k->k+(xs.length:Int)<=1000000000->
 g8 Tryz.prog T1 (c6 Tryz.prog T1 L1) 25 (cq Tryz.f25 [0,0,1,0,1]) ⟨[.one (.c (.arr 0 0 n)),.one (.c (.d (.v (.int .i64 (k))))),J,J,J,.one (.c (.d (.v (.int .i64 (i))))),J,J,J,J,J,J,J,J,J,J,J,J,J,J],c7 [some (.arr 1 (A++rS xs))],1,1⟩=some (.exit 0,⟨[J,.one (.c (.d (.v (.int .i64 (k+(xs.length:Int)))))),J,J,J,J,J,J,J,J,J,J,J,J,J,J,J,J,J,J],c7 [some (.arr 1 (A++rS (mS xs.length k)))],1,1⟩)
 |[],A,i,k,n,hi,hn,hx,hk,hb=>by
  simp only[List.length_nil,Int.natCast_zero,Int.mul_zero,Int.add_zero,mS]at hn hb⊢
  subst hi hn
  exact lp V25
 |x::xs,A,i,k,n,hi,hn,hx,hk,hb=>by
  have ih:=a7h xs (A++[[.v (.string (B (mT (k))))]]) (i+1) (k+1) n (by simp;omega) (by simp at hn⊢;omega) hx (by omega) (by simp at hb;omega)
  have fG: ∀r:List D,(A++r::rS xs)[i.toNat]?=some r:=fun r=>b3f A r _ _ (by omega)
  have fS: ∀r r':List D,(A++r::rS xs).set i.toNat r'=A++r'::rS xs:=fun r r'=>b3g A r r' _ _ (by omega)
  simp only[List.append_assoc,List.singleton_append,List.length_cons]at ih hn hb⊢
  rw[show k+((xs.length+1:Nat):Int)=k+1+(xs.length:Int) by omega]
  have t0:=D5 (k) (by omega)
  simp only[mS,a9q]
  rw[<-ih]
  have q1:0<=i:=by omega
  have q2:i<n:=by omega
  clear ih hi hn
  generalize rS xs=R at fG fS⊢
  exact lp V25
theorem i9(xs:List (List UInt8))(k:Int)(hx:xs.length<=1048576)(hk:0<=k)(hb:k+(xs.length:Int)<=1000000000):c6 Tryz.prog T1 L1 25 [.c (.arr 0 0 xs.length),.c (.d (.v (.int .i64 (k))))] [some (.arr 1 (rS xs))]=some (.one (.c (.d (.v (.int .i64 (k+(xs.length:Int)))))),[some (.arr 1 (rS (mS xs.length k)))]):=by
 have Lp:=a7h xs [] 0 k xs.length rfl (by simp) hx hk hb
 simp only[List.nil_append]at Lp
 exact fn V25 Tryz.func25
theorem a8o: ∀(xs:List (i6))(A:List (List D))(i k:Int)(n:Nat),i=A.length->n=A.length+xs.length->n<=1048576->0<=k->k+2*(xs.length:Int)<=1000000000->
 g8 Tryz.prog T1 (c6 Tryz.prog T1 L1) 46 (cq Tryz.f46 [0,0,1,0,1]) ⟨[.one (.c (.arr 0 0 n)),.one (.c (.d (.v (.int .i64 (k))))),J,J,J,.one (.c (.d (.v (.int .i64 (i))))),J,J,J,J,J,J,J,J,J,J,J,J,J,J,J,J,J,J,J,J,J],c7 [some (.arr 2 (A++g9 xs))],1,1⟩=some (.exit 0,⟨[J,.one (.c (.d (.v (.int .i64 (k+2*(xs.length:Int)))))),J,J,J,J,J,J,J,J,J,J,J,J,J,J,J,J,J,J,J,J,J,J,J,J,J],c7 [some (.arr 2 (A++g9 (mIn xs.length k)))],1,1⟩)
 |[],A,i,k,n,hi,hn,hx,hk,hb=>by
  simp only[List.length_nil,Int.natCast_zero,Int.mul_zero,Int.add_zero,mIn]at hn hb⊢
  subst hi hn
  exact lp V46
 |x::xs,A,i,k,n,hi,hn,hx,hk,hb=>by
  have ih:=a8o xs (A++[[.v (.int .i64 (k)),.v (.int .i64 (k+1))]]) (i+1) (k+1+1) n (by simp;omega) (by simp at hn⊢;omega) hx (by omega) (by simp at hb;omega)
  have fG: ∀r:List D,(A++r::g9 xs)[i.toNat]?=some r:=fun r=>b3f A r _ _ (by omega)
  have fS: ∀r r':List D,(A++r::g9 xs).set i.toNat r'=A++r'::g9 xs:=fun r r'=>b3g A r r' _ _ (by omega)
  simp only[List.append_assoc,List.singleton_append,List.length_cons]at ih hn hb⊢
  rw[show k+2*((xs.length+1:Nat):Int)=k+1+1+2*(xs.length:Int) by omega]
  simp only[mIn,a7g,i6.enc]
  rw[<-ih]
  have q1:0<=i:=by omega
  have q2:i<n:=by omega
  clear ih hi hn
  generalize g9 xs=R at fG fS⊢
  exact lp V46
theorem b1l(xs:List (i6))(k:Int)(hx:xs.length<=1048576)(hk:0<=k)(hb:k+2*(xs.length:Int)<=1000000000):c6 Tryz.prog T1 L1 46 [.c (.arr 0 0 xs.length),.c (.d (.v (.int .i64 (k))))] [some (.arr 2 (g9 xs))]=some (.one (.c (.d (.v (.int .i64 (k+2*(xs.length:Int)))))),[some (.arr 2 (g9 (mIn xs.length k)))]):=by
 have Lp:=a8o xs [] 0 k xs.length rfl (by simp) hx hk hb
 simp only[List.nil_append]at Lp
 exact fn V46 Tryz.func46
theorem b1m: ∀(xs:List (v9))(A:List (List D))(i k:Int)(n:Nat),i=A.length->n=A.length+xs.length->n<=1048576->0<=k->k+2*(xs.length:Int)<=1000000000->
 g8 Tryz.prog T1 (c6 Tryz.prog T1 L1) 47 (cq Tryz.f47 [0,0,1,0,1]) ⟨[.one (.c (.arr 0 0 n)),.one (.c (.d (.v (.int .i64 (k))))),J,J,J,.one (.c (.d (.v (.int .i64 (i))))),J,J,J,J,J,J,J,J,J,J,J,J,J,J,J,J,J,J,J,J,J,J,J],c7 [some (.arr 2 (A++rV xs))],1,1⟩=some (.exit 0,⟨[J,.one (.c (.d (.v (.int .i64 (k+2*(xs.length:Int)))))),J,J,J,J,J,J,J,J,J,J,J,J,J,J,J,J,J,J,J,J,J,J,J,J,J,J,J],c7 [some (.arr 2 (A++rV (mV xs.length k)))],1,1⟩)
 |[],A,i,k,n,hi,hn,hx,hk,hb=>by
  simp only[List.length_nil,Int.natCast_zero,Int.mul_zero,Int.add_zero,mV]at hn hb⊢
  subst hi hn
  exact lp V47
 |x::xs,A,i,k,n,hi,hn,hx,hk,hb=>by
  have ih:=b1m xs (A++[[.v (.string (B (mT (k)))),.v (.string (B (mT (k+1))))]]) (i+1) (k+1+1) n (by simp;omega) (by simp at hn⊢;omega) hx (by omega) (by simp at hb;omega)
  have fG: ∀r:List D,(A++r::rV xs)[i.toNat]?=some r:=fun r=>b3f A r _ _ (by omega)
  have fS: ∀r r':List D,(A++r::rV xs).set i.toNat r'=A++r'::rV xs:=fun r r'=>b3g A r r' _ _ (by omega)
  simp only[List.append_assoc,List.singleton_append,List.length_cons]at ih hn hb⊢
  rw[show k+2*((xs.length+1:Nat):Int)=k+1+1+2*(xs.length:Int) by omega]
  have t0:=D5 (k) (by omega)
  have t1:=D5 (k+1) (by omega)
  simp only[mV,a9r,v9.enc]
  rw[<-ih]
  have q1:0<=i:=by omega
  have q2:i<n:=by omega
  clear ih hi hn
  generalize rV xs=R at fG fS⊢
  exact lp V47
theorem b4k(xs:List (v9))(k:Int)(hx:xs.length<=1048576)(hk:0<=k)(hb:k+2*(xs.length:Int)<=1000000000):c6 Tryz.prog T1 L1 47 [.c (.arr 0 0 xs.length),.c (.d (.v (.int .i64 (k))))] [some (.arr 2 (rV xs))]=some (.one (.c (.d (.v (.int .i64 (k+2*(xs.length:Int)))))),[some (.arr 2 (rV (mV xs.length k)))]):=by
 have Lp:=b1m xs [] 0 k xs.length rfl (by simp) hx hk hb
 simp only[List.nil_append]at Lp
 exact fn V47 Tryz.func47
theorem a9u: ∀(xs:List (q9))(A:List (List D))(i k:Int)(n:Nat),i=A.length->n=A.length+xs.length->n<=1048576->0<=k->k+3*(xs.length:Int)<=1000000000->
 g8 Tryz.prog T1 (c6 Tryz.prog T1 L1) 48 (cq Tryz.f48 [0,0,1,0,1]) ⟨[.one (.c (.arr 0 0 n)),.one (.c (.d (.v (.int .i64 (k))))),J,J,J,.one (.c (.d (.v (.int .i64 (i))))),J,J,J,J,J,J,J,J,J,J,J,J,J,J,J,J,J,J,J,J,J,J,J,J,J,J,J,J,J,J,J],c7 [some (.arr 3 (A++rC xs))],1,1⟩=some (.exit 0,⟨[J,.one (.c (.d (.v (.int .i64 (k+3*(xs.length:Int)))))),J,J,J,J,J,J,J,J,J,J,J,J,J,J,J,J,J,J,J,J,J,J,J,J,J,J,J,J,J,J,J,J,J,J,J],c7 [some (.arr 3 (A++rC (mC xs.length k)))],1,1⟩)
 |[],A,i,k,n,hi,hn,hx,hk,hb=>by
  simp only[List.length_nil,Int.natCast_zero,Int.mul_zero,Int.add_zero,mC]at hn hb⊢
  subst hi hn
  exact lp V48
 |x::xs,A,i,k,n,hi,hn,hx,hk,hb=>by
  have ih:=a9u xs (A++[[.v (.string (B (mT (k)))),.v (.string (B (mT (k+1)))),.v (.string (B (mT (k+1+1))))]]) (i+1) (k+1+1+1) n (by simp;omega) (by simp at hn⊢;omega) hx (by omega) (by simp at hb;omega)
  have fG: ∀r:List D,(A++r::rC xs)[i.toNat]?=some r:=fun r=>b3f A r _ _ (by omega)
  have fS: ∀r r':List D,(A++r::rC xs).set i.toNat r'=A++r'::rC xs:=fun r r'=>b3g A r r' _ _ (by omega)
  simp only[List.append_assoc,List.singleton_append,List.length_cons]at ih hn hb⊢
  rw[show k+3*((xs.length+1:Nat):Int)=k+1+1+1+3*(xs.length:Int) by omega]
  have t0:=D5 (k) (by omega)
  have t1:=D5 (k+1) (by omega)
  have t2:=D5 (k+1+1) (by omega)
  simp only[mC,a9s,q9.enc]
  rw[<-ih]
  have q1:0<=i:=by omega
  have q2:i<n:=by omega
  clear ih hi hn
  generalize rC xs=R at fG fS⊢
  exact lp V48
theorem b2m(xs:List (q9))(k:Int)(hx:xs.length<=1048576)(hk:0<=k)(hb:k+3*(xs.length:Int)<=1000000000):c6 Tryz.prog T1 L1 48 [.c (.arr 0 0 xs.length),.c (.d (.v (.int .i64 (k))))] [some (.arr 3 (rC xs))]=some (.one (.c (.d (.v (.int .i64 (k+3*(xs.length:Int)))))),[some (.arr 3 (rC (mC xs.length k)))]):=by
 have Lp:=a9u xs [] 0 k xs.length rfl (by simp) hx hk hb
 simp only[List.nil_append]at Lp
 exact fn V48 Tryz.func48
theorem Y7(xs:List (List UInt8))(k:Int)(hx:xs=[]):c6 Tryz.prog T1 L1 25 [.c (.d (.v (.slice none 0 0))),.c (.d (.v (.int .i64 (k))))] []=some (.one (.c (.d (.v (.int .i64 (k+(xs.length:Int)))))),[]):=by
 have h:g8 Tryz.prog T1 (c6 Tryz.prog T1 L1) 25 (cq Tryz.f25 [0,0,1,0,1]) ⟨[.one (.c (.d (.v (.slice none 0 0)))),.one (.c (.d (.v (.int .i64 (k))))),J,J,J,.one (.c (.d (.v (.int .i64 (0))))),J,J,J,J,J,J,J,J,J,J,J,J,J,J],c7 [],0,0⟩=some (.exit 0,⟨[J,.one (.c (.d (.v (.int .i64 (k))))),J,J,J,J,J,J,J,J,J,J,J,J,J,J,J,J,J,J],c7 [],0,0⟩):=by
  exact lp V25
 rw[hx,show k+((([]:List (List UInt8)).length:Nat):Int)=k by simp]
 clear hx
 exact fn V25 Tryz.func25
theorem f5n(n:Nat)(k:Int):(rS (mS n k)).take n=rS (mS n k):=List.take_of_length_le (by rw[i7,b7o];omega)
attribute [go_sem] f5n b7o
theorem a9v(xs:List i6)(k:Int)(hx:xs=[]):c6 Tryz.prog T1 L1 46 [.c (.d (.v (.slice none 0 0))),.c (.d (.v (.int .i64 (k))))] []=some (.one (.c (.d (.v (.int .i64 (k+2*(xs.length:Int)))))),[]):=by
 have h:g8 Tryz.prog T1 (c6 Tryz.prog T1 L1) 46 (cq Tryz.f46 [0,0,1,0,1]) ⟨[.one (.c (.d (.v (.slice none 0 0)))),.one (.c (.d (.v (.int .i64 (k))))),J,J,J,.one (.c (.d (.v (.int .i64 (0))))),J,J,J,J,J,J,J,J,J,J,J,J,J,J,J,J,J,J,J,J,J],c7 [],0,0⟩=some (.exit 0,⟨[J,.one (.c (.d (.v (.int .i64 (k))))),J,J,J,J,J,J,J,J,J,J,J,J,J,J,J,J,J,J,J,J,J,J,J,J,J],c7 [],0,0⟩):=by
  exact lp V46
 rw[hx,show k+2*((([]:List i6).length:Nat):Int)=k by simp]
 clear hx
 exact fn V46 Tryz.func46
theorem e9r(n:Nat)(k:Int):(g9 (mIn n k)).take n=g9 (mIn n k):=List.take_of_length_le (by rw[k8,b3h];omega)
attribute [go_sem] e9r b3h
theorem b2n(xs:List v9)(k:Int)(hx:xs=[]):c6 Tryz.prog T1 L1 47 [.c (.d (.v (.slice none 0 0))),.c (.d (.v (.int .i64 (k))))] []=some (.one (.c (.d (.v (.int .i64 (k+2*(xs.length:Int)))))),[]):=by
 have h:g8 Tryz.prog T1 (c6 Tryz.prog T1 L1) 47 (cq Tryz.f47 [0,0,1,0,1]) ⟨[.one (.c (.d (.v (.slice none 0 0)))),.one (.c (.d (.v (.int .i64 (k))))),J,J,J,.one (.c (.d (.v (.int .i64 (0))))),J,J,J,J,J,J,J,J,J,J,J,J,J,J,J,J,J,J,J,J,J,J,J],c7 [],0,0⟩=some (.exit 0,⟨[J,.one (.c (.d (.v (.int .i64 (k))))),J,J,J,J,J,J,J,J,J,J,J,J,J,J,J,J,J,J,J,J,J,J,J,J,J,J,J],c7 [],0,0⟩):=by
  exact lp V47
 rw[hx,show k+2*((([]:List v9).length:Nat):Int)=k by simp]
 clear hx
 exact fn V47 Tryz.func47
theorem f5o(n:Nat)(k:Int):(rV (mV n k)).take n=rV (mV n k):=List.take_of_length_le (by rw[l7,b7p];omega)
attribute [go_sem] f5o b7p
theorem b1n(xs:List q9)(k:Int)(hx:xs=[]):c6 Tryz.prog T1 L1 48 [.c (.d (.v (.slice none 0 0))),.c (.d (.v (.int .i64 (k))))] []=some (.one (.c (.d (.v (.int .i64 (k+3*(xs.length:Int)))))),[]):=by
 have h:g8 Tryz.prog T1 (c6 Tryz.prog T1 L1) 48 (cq Tryz.f48 [0,0,1,0,1]) ⟨[.one (.c (.d (.v (.slice none 0 0)))),.one (.c (.d (.v (.int .i64 (k))))),J,J,J,.one (.c (.d (.v (.int .i64 (0))))),J,J,J,J,J,J,J,J,J,J,J,J,J,J,J,J,J,J,J,J,J,J,J,J,J,J,J,J,J,J,J],c7 [],0,0⟩=some (.exit 0,⟨[J,.one (.c (.d (.v (.int .i64 (k))))),J,J,J,J,J,J,J,J,J,J,J,J,J,J,J,J,J,J,J,J,J,J,J,J,J,J,J,J,J,J,J,J,J,J,J],c7 [],0,0⟩):=by
  exact lp V48
 rw[hx,show k+3*((([]:List q9).length:Nat):Int)=k by simp]
 clear hx
 exact fn V48 Tryz.func48
theorem f5p(n:Nat)(k:Int):(rC (mC n k)).take n=rC (mC n k):=List.take_of_length_le (by rw[l8,b7q];omega)
attribute [go_sem] f5p b7q
end
end Go.Vsi
