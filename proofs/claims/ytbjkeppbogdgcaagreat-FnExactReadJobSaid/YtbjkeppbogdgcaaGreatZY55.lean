/- What the functions of the program, of the reference and of the law do (a part of it). -/
import Derived.Test.YtbjkeppbogdgcaaGreatZY51
import Derived.Test.YtbjkeppbogdgcaaGreatZY52
import Derived.Test.YtbjkeppbogdgcaaGreatZY53
import Derived.Test.YtbjkeppbogdgcaaGreatZY54
namespace Go.Vsi
open Go.Proofs
noncomputable section
set_option maxRecDepth 100000
set_option maxHeartbeats 4000000
set_option linter.unusedSimpArgs false
set_option linter.unusedVariables false
attribute [local go_sem ↓] v6
theorem e8b(s:List UInt8)(hs:1048576<s.length)(hm:s.length<=maxLen):c6 Tryz.prog T1 L1 3 [.c (.d (.v (.string (B (s)))))] []=some (wb true,[]):=by
 have:maxLen=9223372036854775807:=rfl
 exact fn V3 Tryz.func3
theorem e8c{rd:List UInt8->Bool}{s:List UInt8}(h:okJ rd s=true):bGJ (jI s).1:=by
 unfold okJ at h
 simp only[Bool.and_eq_true]at h
 obtain⟨g1,g2,g3,g4,_⟩:=b2s h.2.2.2
 obtain⟨s1,s2,_⟩:=a4e (a3g g1).1
 obtain⟨t1,t2,_⟩:=a1k g2
 exact⟨by omega,by omega,by omega,by omega,by omega,by omega⟩
theorem e1f(rd:List UInt8->Bool)(hRi:C5 78 rd)(hRs:C5 82 rd)(s:List UInt8)(hm:s.length<=maxLen):c6 Tryz.prog T1 L1 3 [.c (.d (.v (.string (B (s)))))] []=some (wb true,[]):=by
 by_cases hs:s.length<=1048576
 rotate_left
 ·exact e8b s (by omega) hm
 have hI:=c6q rd hRi s (by omega)
 have hS:=c6r rd hRs s (by omega)
 obtain⟨k1,k2⟩:=e7z rd s
 unfold e0l at hI
 cases hok:a7w rd s with
 |false=>
  rw[k1,hok,if_neg (by simp)]at hI
  rw[hok]at hS
  exact f7a s hs ⟨⟨[],[],0,0,0⟩,⟨[],[],[]⟩,[],[]⟩ false ⟨by simp,by simp,by simp,by simp,by simp,by simp⟩ rfl rfl rfl rfl rfl rfl rfl hS hI
 |true=>
  have hb:=e8c (k1.trans hok)
  rw[k1,hok,if_pos rfl]at hI
  rw[hok,k2 hok]at hS
  have hB:(jI s).1.Code.Begin=0:=rfl
  generalize (jI s).1=x at*
  have hS':c6 Tryz.prog T1 L1 4 [.c (.d (.v (.string (B (s)))))] []=some (.tup [.agg (x9 true true true true true true x),.c (.d (.v (.bool (true))))],[]):=by
   rw[hS]
   unfold wJ b5t x9
   rw[if_pos rfl,hB]
  unfold X9 mJ at hI
  by_cases h1:x.Code.Texts=[]<;>by_cases h2:x.Code.List=[]<;>by_cases h3:x.Begin.Vars=[]<;>by_cases h4:x.Begin.Cells=[]
  ·rw[j7 _ _ _ _ (by rw[h1];rfl),j7 _ _ _ _ (by rw[h2];rfl),j7 _ _ _ _ (by rw[h3];rfl),j7 _ _ _ _ (by rw[h4];rfl),j5,j5,u3]at hI
   simp only[i7,k8,l7,l8]at hI
   exact e0p s hs x true hb hB h1 h2 h3 h4 hS' hI
  ·rw[j7 _ _ _ _ (by rw[h1];rfl),j7 _ _ _ _ (by rw[h2];rfl),j7 _ _ _ _ (by rw[h3];rfl),j9 _ _ _ _ (I9 h4),j5,j5,u3]at hI
   simp only[i7,k8,l7,l8]at hI
   exact e0q s hs x true hb hB h1 h2 h3 h4 hS' hI
  ·rw[j7 _ _ _ _ (by rw[h1];rfl),j7 _ _ _ _ (by rw[h2];rfl),j9 _ _ _ _ (I8 h3),j7 _ _ _ _ (by rw[h4];rfl),j5,j5,u3]at hI
   simp only[i7,k8,l7,l8]at hI
   exact e0r s hs x true hb hB h1 h2 h3 h4 hS' hI
  ·rw[j7 _ _ _ _ (by rw[h1];rfl),j7 _ _ _ _ (by rw[h2];rfl),j9 _ _ _ _ (I8 h3),j9 _ _ _ _ (I9 h4),j5,j5,u3]at hI
   simp only[i7,k8,l7,l8]at hI
   exact e0s s hs x true hb hB h1 h2 h3 h4 hS' hI
  ·rw[j7 _ _ _ _ (by rw[h1];rfl),j9 _ _ _ _ (D9 h2),j7 _ _ _ _ (by rw[h3];rfl),j7 _ _ _ _ (by rw[h4];rfl),j5,j5,u3]at hI
   simp only[i7,k8,l7,l8]at hI
   exact e0t s hs x true hb hB h1 h2 h3 h4 hS' hI
  ·rw[j7 _ _ _ _ (by rw[h1];rfl),j9 _ _ _ _ (D9 h2),j7 _ _ _ _ (by rw[h3];rfl),j9 _ _ _ _ (I9 h4),j5,j5,u3]at hI
   simp only[i7,k8,l7,l8]at hI
   exact e0u s hs x true hb hB h1 h2 h3 h4 hS' hI
  ·rw[j7 _ _ _ _ (by rw[h1];rfl),j9 _ _ _ _ (D9 h2),j9 _ _ _ _ (I8 h3),j7 _ _ _ _ (by rw[h4];rfl),j5,j5,u3]at hI
   simp only[i7,k8,l7,l8]at hI
   exact e0v s hs x true hb hB h1 h2 h3 h4 hS' hI
  ·rw[j7 _ _ _ _ (by rw[h1];rfl),j9 _ _ _ _ (D9 h2),j9 _ _ _ _ (I8 h3),j9 _ _ _ _ (I9 h4),j5,j5,u3]at hI
   simp only[i7,k8,l7,l8]at hI
   exact e0w s hs x true hb hB h1 h2 h3 h4 hS' hI
  ·rw[j9 _ _ _ _ (F5 h1),j7 _ _ _ _ (by rw[h2];rfl),j7 _ _ _ _ (by rw[h3];rfl),j7 _ _ _ _ (by rw[h4];rfl),j5,j5,u3]at hI
   simp only[i7,k8,l7,l8]at hI
   exact e0x s hs x true hb hB h1 h2 h3 h4 hS' hI
  ·rw[j9 _ _ _ _ (F5 h1),j7 _ _ _ _ (by rw[h2];rfl),j7 _ _ _ _ (by rw[h3];rfl),j9 _ _ _ _ (I9 h4),j5,j5,u3]at hI
   simp only[i7,k8,l7,l8]at hI
   exact e0y s hs x true hb hB h1 h2 h3 h4 hS' hI
  ·rw[j9 _ _ _ _ (F5 h1),j7 _ _ _ _ (by rw[h2];rfl),j9 _ _ _ _ (I8 h3),j7 _ _ _ _ (by rw[h4];rfl),j5,j5,u3]at hI
   simp only[i7,k8,l7,l8]at hI
   exact e0z s hs x true hb hB h1 h2 h3 h4 hS' hI
  ·rw[j9 _ _ _ _ (F5 h1),j7 _ _ _ _ (by rw[h2];rfl),j9 _ _ _ _ (I8 h3),j9 _ _ _ _ (I9 h4),j5,j5,u3]at hI
   simp only[i7,k8,l7,l8]at hI
   exact e1a s hs x true hb hB h1 h2 h3 h4 hS' hI
  ·rw[j9 _ _ _ _ (F5 h1),j9 _ _ _ _ (D9 h2),j7 _ _ _ _ (by rw[h3];rfl),j7 _ _ _ _ (by rw[h4];rfl),j5,j5,u3]at hI
   simp only[i7,k8,l7,l8]at hI
   exact e1b s hs x true hb hB h1 h2 h3 h4 hS' hI
  ·rw[j9 _ _ _ _ (F5 h1),j9 _ _ _ _ (D9 h2),j7 _ _ _ _ (by rw[h3];rfl),j9 _ _ _ _ (I9 h4),j5,j5,u3]at hI
   simp only[i7,k8,l7,l8]at hI
   exact e1c s hs x true hb hB h1 h2 h3 h4 hS' hI
  ·rw[j9 _ _ _ _ (F5 h1),j9 _ _ _ _ (D9 h2),j9 _ _ _ _ (I8 h3),j7 _ _ _ _ (by rw[h4];rfl),j5,j5,u3]at hI
   simp only[i7,k8,l7,l8]at hI
   exact e1d s hs x true hb hB h1 h2 h3 h4 hS' hI
  ·rw[j9 _ _ _ _ (F5 h1),j9 _ _ _ _ (D9 h2),j9 _ _ _ _ (I8 h3),j9 _ _ _ _ (I9 h4),j5,j5,u3]at hI
   simp only[i7,k8,l7,l8]at hI
   exact e1e s hs x true hb hB h1 h2 h3 h4 hS' hI
end
end Go.Vsi
