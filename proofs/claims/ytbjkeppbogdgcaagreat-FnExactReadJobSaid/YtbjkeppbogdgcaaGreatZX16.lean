/- What the functions of the program, of the reference and of the law do (a part of it). -/
import Derived.Test.YtbjkeppbogdgcaaGreatZX15
namespace Go.Vsi
open Go.Proofs
noncomputable section
set_option maxRecDepth 100000
set_option maxHeartbeats 4000000
set_option linter.unusedSimpArgs false
set_option linter.unusedVariables false
attribute [local go_sem] v6
theorem d0s(k:Nat)(h:Q7 88 F9 1 6 k)(s:List UInt8)(n:Nat)(R0:List (List D))(hn:n<=s.length)(hk:6*(s.length-n)+3<=k+1)(hlen:R0.length+2*(s.length-n)<=58+(1-0))(hs:s.length<=24)(hl:n<s.length)(c94: ¬(s[n].toNat:Int)=94)(c36: ¬(s[n].toNat:Int)=36)(c46: ¬(s[n].toNat:Int)=46)(c91: ¬(s[n].toNat:Int)=91)(c40:(s[n].toNat:Int)=40)(hm:F9 k (s.drop (n+1))=none):R7 s (R0.length+2*(s.length-n)+2*0+1) R0 (c6 Tryz.prog T L0 102 [.c (.ptr 0 0 0)] (hS s n false R0)) (Y6 0 s n R0) (y7 (k+1) (s.drop n)):=by
 have hi:=E8 s n hl
 have hl2: ¬(s.length:Int)<=(n:Int):=by omega
 have hl3:(n:Int)<(s.length:Int):=by omega
 have ec1:((n+1:Nat):Int)=(n:Int)+1:=by omega
 have ec2:((n+1+1:Nat):Int)=(n:Int)+1+1:=by omega
 have halt:=h s (n+1) R0 (by omega) (by omega) (by omega) hs
 rw[List.drop_eq_getElem_cons hl]
 simp only[y7,nx,List.drop_succ_cons,List.drop_zero,show((94:UInt8).toNat:Int)=94 from rfl,show((36:UInt8).toNat:Int)=36 from rfl,show((46:UInt8).toNat:Int)=46 from rfl,show((91:UInt8).toNat:Int)=91 from rfl,show((40:UInt8).toNat:Int)=40 from rfl]
 generalize s[n]=b at hi c94 c36 c46 c91 c40⊢
 have q94:f8 (b.toNat:Int) 94=false:=by simp[f8,c94]
 simp only[v7 c94]
 clear c94
 have q36:f8 (b.toNat:Int) 36=false:=by simp[f8,c36]
 simp only[v7 c36]
 clear c36
 have q46:f8 (b.toNat:Int) 46=false:=by simp[f8,c46]
 simp only[v7 c46]
 clear c46
 have q91:f8 (b.toNat:Int) 91=false:=by simp[f8,c91]
 simp only[v7 c91]
 clear c91
 rw[c40]at hi
 simp only[c40,decide_true,hm]
 rw[hm]at halt
 obtain⟨w,bs,e,hbs⟩:=halt
 clear hm h c40
 rcases hbs with⟨n',rfl⟩|⟨n',R,z1,z2,rfl⟩
 ·have hj:=a6e 41 s n' R0
  refine⟨0,hS s n' true R0,?_,.inl ⟨_,rfl⟩⟩
  clear hlen
  cases R0
  all_goals
   simp only[hS,ec1]at e hj⊢
   exact fn R6 Tryz.func102
 ·have hj:=a7f 41 s n' R z1
  refine⟨0,hT R0 s n' true R,?_,.inr ⟨n',R,z1,by omega,rfl⟩⟩
  clear hlen
  cases R0
  all_goals
   simp only[hS,hT,ec1]at e hj⊢
   exact fn R6 Tryz.func102
theorem d0t(k:Nat)(h:Q7 88 F9 1 6 k)(s:List UInt8)(n:Nat)(R0:List (List D))(hn:n<=s.length)(hk:6*(s.length-n)+3<=k+1)(hlen:R0.length+2*(s.length-n)<=58+(1-0))(hs:s.length<=24)(hl:n<s.length)(c94: ¬(s[n].toNat:Int)=94)(c36: ¬(s[n].toNat:Int)=36)(c46: ¬(s[n].toNat:Int)=46)(c91: ¬(s[n].toNat:Int)=91)(c40:(s[n].toNat:Int)=40)(rest:List UInt8)(hm:F9 k (s.drop (n+1))=some rest)(hx:nx 41 rest=true):R7 s (R0.length+2*(s.length-n)+2*0+1) R0 (c6 Tryz.prog T L0 102 [.c (.ptr 0 0 0)] (hS s n false R0)) (Y6 0 s n R0) (y7 (k+1) (s.drop n)):=by
 have hi:=E8 s n hl
 have hl2: ¬(s.length:Int)<=(n:Int):=by omega
 have hl3:(n:Int)<(s.length:Int):=by omega
 have ec1:((n+1:Nat):Int)=(n:Int)+1:=by omega
 have ec2:((n+1+1:Nat):Int)=(n:Int)+1+1:=by omega
 have halt:=h s (n+1) R0 (by omega) (by omega) (by omega) hs
 rw[List.drop_eq_getElem_cons hl]
 simp only[y7,nx,List.drop_succ_cons,List.drop_zero,show((94:UInt8).toNat:Int)=94 from rfl,show((36:UInt8).toNat:Int)=36 from rfl,show((46:UInt8).toNat:Int)=46 from rfl,show((91:UInt8).toNat:Int)=91 from rfl,show((40:UInt8).toNat:Int)=40 from rfl]
 generalize s[n]=b at hi c94 c36 c46 c91 c40⊢
 have q94:f8 (b.toNat:Int) 94=false:=by simp[f8,c94]
 simp only[v7 c94]
 clear c94
 have q36:f8 (b.toNat:Int) 36=false:=by simp[f8,c36]
 simp only[v7 c36]
 clear c36
 have q46:f8 (b.toNat:Int) 46=false:=by simp[f8,c46]
 simp only[v7 c46]
 clear c46
 have q91:f8 (b.toNat:Int) 91=false:=by simp[f8,c91]
 simp only[v7 c91]
 clear c91
 rw[c40]at hi
 simp only[c40,decide_true,hm]
 rw[hm]at halt
 obtain⟨a,n',R,e,g1,g2,⟨g3,g4⟩,g5⟩:=halt
 subst g2
 have hj:=D8 41 s n' g1 hs R (by omega)
 have ec3:((n'+1:Nat):Int)=(n':Int)+1:=by omega
 rw[show((41:UInt8).toNat:Int)=41 from rfl]at hj
 try simp only
 clear hm h c40
 have hx2:=a6d hx
 rw[ne_eq,List.drop_eq_nil_iff]at hx2
 rw[hx]at hj
 have hx3:=hx
 simp only[nx]at hx3
 rw[hx3]
 refine⟨a,n'+1,R,?_,by omega,by rw[List.drop_drop],⟨by omega,by omega⟩,by omega⟩
 clear hlen hx hx2 hx3 g3 g4 g5
 cases R0
 all_goals
  simp only[hS,hT,ec1,ec3]at e hj⊢
  exact fn R6 Tryz.func102
theorem d0u(k:Nat)(h:Q7 88 F9 1 6 k)(s:List UInt8)(n:Nat)(R0:List (List D))(hn:n<=s.length)(hk:6*(s.length-n)+3<=k+1)(hlen:R0.length+2*(s.length-n)<=58+(1-0))(hs:s.length<=24)(hl:n<s.length)(c94: ¬(s[n].toNat:Int)=94)(c36: ¬(s[n].toNat:Int)=36)(c46: ¬(s[n].toNat:Int)=46)(c91: ¬(s[n].toNat:Int)=91)(c40:(s[n].toNat:Int)=40)(rest:List UInt8)(hm:F9 k (s.drop (n+1))=some rest)(hx:nx 41 rest=false):R7 s (R0.length+2*(s.length-n)+2*0+1) R0 (c6 Tryz.prog T L0 102 [.c (.ptr 0 0 0)] (hS s n false R0)) (Y6 0 s n R0) (y7 (k+1) (s.drop n)):=by
 have hi:=E8 s n hl
 have hl2: ¬(s.length:Int)<=(n:Int):=by omega
 have hl3:(n:Int)<(s.length:Int):=by omega
 have ec1:((n+1:Nat):Int)=(n:Int)+1:=by omega
 have ec2:((n+1+1:Nat):Int)=(n:Int)+1+1:=by omega
 have halt:=h s (n+1) R0 (by omega) (by omega) (by omega) hs
 rw[List.drop_eq_getElem_cons hl]
 simp only[y7,nx,List.drop_succ_cons,List.drop_zero,show((94:UInt8).toNat:Int)=94 from rfl,show((36:UInt8).toNat:Int)=36 from rfl,show((46:UInt8).toNat:Int)=46 from rfl,show((91:UInt8).toNat:Int)=91 from rfl,show((40:UInt8).toNat:Int)=40 from rfl]
 generalize s[n]=b at hi c94 c36 c46 c91 c40⊢
 have q94:f8 (b.toNat:Int) 94=false:=by simp[f8,c94]
 simp only[v7 c94]
 clear c94
 have q36:f8 (b.toNat:Int) 36=false:=by simp[f8,c36]
 simp only[v7 c36]
 clear c36
 have q46:f8 (b.toNat:Int) 46=false:=by simp[f8,c46]
 simp only[v7 c46]
 clear c46
 have q91:f8 (b.toNat:Int) 91=false:=by simp[f8,c91]
 simp only[v7 c91]
 clear c91
 rw[c40]at hi
 simp only[c40,decide_true,hm]
 rw[hm]at halt
 obtain⟨a,n',R,e,g1,g2,⟨g3,g4⟩,g5⟩:=halt
 subst g2
 have hj:=D8 41 s n' g1 hs R (by omega)
 have ec3:((n'+1:Nat):Int)=(n':Int)+1:=by omega
 rw[show((41:UInt8).toNat:Int)=41 from rfl]at hj
 try simp only
 clear hm h c40
 rw[hx]at hj
 have hx3:=hx
 simp only[nx]at hx3
 rw[hx3]
 refine⟨0,hT R0 s n' true R,?_,.inr ⟨n',R,by omega,by omega,rfl⟩⟩
 clear hlen hx hx3 g3 g4 g5
 cases R0
 all_goals
  simp only[hS,hT,ec1]at e hj⊢
  exact fn R6 Tryz.func102
end
end Go.Vsi
