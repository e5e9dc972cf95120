/- What the functions of the program, of the reference and of the law do (a part of it). -/
import Derived.Test.YtbjkeppbogdgcaaGreatZY25
import Derived.Test.YtbjkeppbogdgcaaGreatZY2
namespace Go.Vsi
open Go.Proofs
noncomputable section
set_option maxRecDepth 100000
set_option maxHeartbeats 4000000
set_option linter.unusedSimpArgs false
set_option linter.unusedVariables false
attribute [local go_sem ↓] v6
def szC(c:n8):Bool:=decide (c.Texts.length<=60)&&(decide (c.List.length<=250)&&(f8 c.Begin 0&&(decide (0<=c.Line∧c.Line<=(c.List.length:Int))&&decide (c.Line<=c.End∧c.End<=(c.List.length:Int)))))
def ptC(ar:Int->i6->Int->Bool)(c:n8):Bool:=I1 (ar c.Line) c.List 0 c.Line&&(I1 (ar c.End) c.List c.Line c.End&&I1 (ar (c.List.length:Int)) c.List c.End (c.List.length:Int))
def txC(c:n8):Bool:=D4 (gT 30 c.Texts) 0 c.Texts.length
def liC(c:n8):Bool:=D4 (gI c.List) 0 c.List.length
def q8(rd:List UInt8->Bool)(c:n8):Bool:=txC c&&(liC c&&(szC c&&ptC (arI rd c.Texts) c))
def a6o(rd:List UInt8->Bool)(c:n8):Bool:=txC c&&(szC c&&ptC (arS rd c.Texts) c)
def bdC(c:n8):Prop:=c.Texts.length<=1000000∧c.List.length<=1000000∧ ∀t∈c.Texts,t.length<=1000000000
theorem U9(g:Nat->Bool): ∀(m k:Nat),D4 g k m=true-> ∀j,k<=j->j<k+m->g j=true
 |0,k,h,j,h1,h2=>by omega
 |m+1,k,h,j,h1,h2=>by
  rw[D4,Bool.and_eq_true]at h
  by_cases hj:j=k
  ·subst hj;exact h.1
  ·exact U9 g m (k+1) h.2 j (by omega) (by omega)
theorem a2b{α:Type}(xs:List α)(d x:α)(h:x∈xs): ∃k,k<xs.length∧xs.getD k d=x:=by
 obtain⟨k,hk,e⟩:=List.getElem_of_mem h
 exact⟨k,hk,by rw[List.getD_eq_getElem?_getD,List.getElem?_eq_getElem hk];exact e⟩
theorem d9z(c:n8)(h:liC c=true): ∀x∈c.List,0<=x.Arg∧x.Arg<=255:=fun x hx=>by
 obtain⟨k,hk,e⟩:=a2b c.List ⟨0,0⟩ x hx
 have:=U9 _ _ _ h k (by omega) (by omega)
 unfold gI b8r at this
 rw[e]at this
 simp only[Bool.and_eq_true,decide_eq_true_eq]at this
 exact this.2
theorem a3f(rd:List UInt8->Bool)(hR:C5 78 rd)(c:n8)(p q:Bool)(hb:bdC c):c6 Tryz.prog T1 L1 39 [.agg [.d (c8 p 1 (rS c.Texts)),.d (c8 q 2 (g9 c.List)),.d (.v (.int .i64 (c.Begin))),.d (.v (.int .i64 (c.Line))),.d (.v (.int .i64 (c.End)))]] []=some (.one (.c (.d (.v (.bool (q8 rd c))))),[]):=by
 obtain⟨b1,b2,b3⟩:=hb
 have l1:=d5r c.Begin c.Line c.End [] (.v (.slice none 0 0)) (.v (.slice none 0 0)) (.v (.slice none 0 0)) (.v (.slice none 0 0)) (c8 q 2 (g9 c.List)) p c.Texts b1 (fun x hx=>by have:=b3 x hx;omega)
 have l2:=d5t c.Begin c.Line c.End [] (.v (.slice none 0 0)) (.v (.slice none 0 0)) (.v (.slice none 0 0)) (.v (.slice none 0 0)) (c8 p 1 (rS c.Texts)) q c.List b2 (fun x hx=>trivial)
 have w4:=Q9 c.Line 0 (c.List.length:Int)
 have w5:=Q9 c.End c.Line (c.List.length:Int)
 unfold q8 szC
 have hPt: ∀f e:Int,0<=f->f<=e->e<=(c.List.length:Int)->c.List.length<=250->liC c=true->c6 Tryz.prog T1 L1 59 [.agg [.d (c8 p 1 (rS c.Texts)),.d (c8 q 2 (g9 c.List)),.d (.v (.int .i64 (c.Begin))),.d (.v (.int .i64 (c.Line))),.d (.v (.int .i64 (c.End)))],.c (.d (.v (.int .i64 (f)))),.c (.d (.v (.int .i64 (e))))] []=some (.one (.c (.d (.v (.bool (I1 (arI rd c.Texts e) c.List f e))))),[]):=fun f e f1 f2 f3 f4 f5=>c6p rd hR c p q f e ⟨f1,f2,f3,by omega,by omega,by omega,b3,b1,d9z c f5⟩
 unfold ptC
 have et:txC c=D4 (gT 30 c.Texts) 0 c.Texts.length:=rfl
 rw[<-et]at l1
 clear et
 have el:liC c=D4 (gI c.List) 0 c.List.length:=rfl
 rw[<-el]at l2
 clear el
 clear hR b3
 cases h1:txC c with
 |false=>
  rw[h1,if_neg (by simp)]at l1
  clear h1 hPt
  simp only[Bool.false_and]
  exact fn V39 Tryz.func39
 |true=>
  rw[h1,if_pos rfl]at l1
  clear h1
  rw[Bool.true_and]
  cases h2:liC c with
  |false=>
   rw[h2,if_neg (by simp)]at l2
   clear h2 hPt
   simp only[Bool.false_and]
   exact fn V39 Tryz.func39
  |true=>
   rw[h2,if_pos rfl]at l2
   have hPt:=fun f e a1 a2 a3 a4=>hPt f e a1 a2 a3 a4 h2
   clear h2
   rw[Bool.true_and]
   by_cases g1:c.Texts.length<=60
   rotate_left
   ·rw[decide_eq_false g1]
    simp only[Bool.false_and,Bool.and_false]
    clear hPt
    exact fn V39 Tryz.func39
   rw[decide_eq_true g1,Bool.true_and]
   by_cases g2:c.List.length<=250
   rotate_left
   ·rw[decide_eq_false g2]
    simp only[Bool.false_and,Bool.and_false]
    clear hPt
    exact fn V39 Tryz.func39
   rw[decide_eq_true g2,Bool.true_and]
   cases e3:f8 c.Begin 0 with
   |false=>
    simp only[Bool.false_and,Bool.and_false]
    clear hPt
    exact fn V39 Tryz.func39
   |true=>
    rw[Bool.true_and]
    by_cases g4:0<=c.Line∧c.Line<=(c.List.length:Int)
    rotate_left
    ·rw[decide_eq_false g4]at w4⊢
     simp only[Bool.false_and,Bool.and_false]
     clear hPt
     exact fn V39 Tryz.func39
    rw[decide_eq_true g4]at w4⊢
    rw[Bool.true_and]
    by_cases g5:c.Line<=c.End∧c.End<=(c.List.length:Int)
    rotate_left
    ·rw[decide_eq_false g5]at w5⊢
     simp only[Bool.false_and,Bool.and_false]
     clear hPt
     exact fn V39 Tryz.func39
    rw[decide_eq_true g5]at w5⊢
    rw[Bool.true_and]
    have p1:=hPt 0 c.Line (by omega) g4.1 g4.2 g2
    have p2:=hPt c.Line c.End g4.1 g5.1 g5.2 g2
    have p3:=hPt c.End (c.List.length:Int) (by omega) g5.2 (by omega) g2
    clear hPt
    generalize I1 (arI rd c.Texts c.Line) c.List 0 c.Line=P1 at*
    generalize I1 (arI rd c.Texts c.End) c.List c.Line c.End=P2 at*
    generalize I1 (arI rd c.Texts (c.List.length:Int)) c.List c.End (c.List.length:Int)=P3 at*
    cases P1<;>cases P2<;>cases P3
    all_goals
     simp only[Bool.true_and,Bool.false_and,Bool.and_true,Bool.and_false]
     exact fn V39 Tryz.func39
theorem b7w(rd:List UInt8->Bool)(hR:C5 82 rd)(c:n8)(p q:Bool)(hb:bdC c):c6 Tryz.prog T1 L1 53 [.agg [.d (c8 p 1 (rS c.Texts)),.d (c8 q 2 (g9 c.List)),.d (.v (.int .i64 (c.Begin))),.d (.v (.int .i64 (c.Line))),.d (.v (.int .i64 (c.End)))]] []=some (.one (.c (.d (.v (.bool (a6o rd c))))),[]):=by
 obtain⟨b1,b2,b3⟩:=hb
 have l1:=d5s c.Begin c.Line c.End [] (.v (.slice none 0 0)) (.v (.slice none 0 0)) (.v (.slice none 0 0)) (.v (.slice none 0 0)) (c8 q 2 (g9 c.List)) p c.Texts b1 (fun x hx=>by have:=b3 x hx;omega)
 have w4:=b3j c.Line 0 (c.List.length:Int)
 have w5:=b3j c.End c.Line (c.List.length:Int)
 unfold a6o szC
 have hPt: ∀f e:Int,0<=f->f<=e->e<=(c.List.length:Int)->c.List.length<=250->c6 Tryz.prog T1 L1 65 [.agg [.d (c8 p 1 (rS c.Texts)),.d (c8 q 2 (g9 c.List)),.d (.v (.int .i64 (c.Begin))),.d (.v (.int .i64 (c.Line))),.d (.v (.int .i64 (c.End)))],.c (.d (.v (.int .i64 (f)))),.c (.d (.v (.int .i64 (e))))] []=some (.one (.c (.d (.v (.bool (I1 (arS rd c.Texts e) c.List f e))))),[]):=fun f e f1 f2 f3 f4=>d1u rd hR c p q f e f1 f2 ⟨by omega,f3,by omega,by omega,by omega,b3,b1⟩
 unfold ptC
 have et:txC c=D4 (gT 30 c.Texts) 0 c.Texts.length:=rfl
 rw[<-et]at l1
 clear et
 clear hR b3
 cases h1:txC c with
 |false=>
  rw[h1,if_neg (by simp)]at l1
  clear h1 hPt
  simp only[Bool.false_and]
  exact fn V53 Tryz.func53
 |true=>
  rw[h1,if_pos rfl]at l1
  clear h1
  rw[Bool.true_and]
  by_cases g1:c.Texts.length<=60
  rotate_left
  ·rw[decide_eq_false g1]
   simp only[Bool.false_and,Bool.and_false]
   clear hPt
   exact fn V53 Tryz.func53
  rw[decide_eq_true g1,Bool.true_and]
  by_cases g2:c.List.length<=250
  rotate_left
  ·rw[decide_eq_false g2]
   simp only[Bool.false_and,Bool.and_false]
   clear hPt
   exact fn V53 Tryz.func53
  rw[decide_eq_true g2,Bool.true_and]
  cases e3:f8 c.Begin 0 with
  |false=>
   simp only[Bool.false_and,Bool.and_false]
   clear hPt
   exact fn V53 Tryz.func53
  |true=>
   rw[Bool.true_and]
   by_cases g4:0<=c.Line∧c.Line<=(c.List.length:Int)
   rotate_left
   ·rw[decide_eq_false g4]at w4⊢
    simp only[Bool.false_and,Bool.and_false]
    clear hPt
    exact fn V53 Tryz.func53
   rw[decide_eq_true g4]at w4⊢
   rw[Bool.true_and]
   by_cases g5:c.Line<=c.End∧c.End<=(c.List.length:Int)
   rotate_left
   ·rw[decide_eq_false g5]at w5⊢
    simp only[Bool.false_and,Bool.and_false]
    clear hPt
    exact fn V53 Tryz.func53
   rw[decide_eq_true g5]at w5⊢
   rw[Bool.true_and]
   have p1:=hPt 0 c.Line (by omega) g4.1 g4.2 g2
   have p2:=hPt c.Line c.End g4.1 g5.1 g5.2 g2
   have p3:=hPt c.End (c.List.length:Int) (by omega) g5.2 (by omega) g2
   clear hPt
   generalize I1 (arS rd c.Texts c.Line) c.List 0 c.Line=P1 at*
   generalize I1 (arS rd c.Texts c.End) c.List c.Line c.End=P2 at*
   generalize I1 (arS rd c.Texts (c.List.length:Int)) c.List c.End (c.List.length:Int)=P3 at*
   cases P1<;>cases P2<;>cases P3
   all_goals
    simp only[Bool.true_and,Bool.false_and,Bool.and_true,Bool.and_false]
    exact fn V53 Tryz.func53
end
end Go.Vsi
namespace Go.Vsi
open Go.Proofs
noncomputable section
set_option maxRecDepth 100000
set_option maxHeartbeats 4000000
set_option linter.unusedSimpArgs false
set_option linter.unusedVariables false
attribute [local go_sem ↓] v6
def H1(s:s8):Bool:=D4 (gV s.Vars) 0 s.Vars.length&&(D4 (gC s.Cells) 0 s.Cells.length&&(decide (s.Vars.length<=60)&&(decide (s.Cells.length<=2000)&&decide (s.Out.length<=3000))))
def bdS(s:s8):Prop:=s.Vars.length<=1000000∧s.Cells.length<=1000000∧(∀x∈s.Vars,x.Name.length<=9000000000∧x.Val.length<=9000000000)∧(∀x∈s.Cells,x.Name.length<=9000000000∧x.Key.length<=9000000000∧x.Val.length<=9000000000)∧s.Out.length<=9000000000
def bdJ(j:C6):Prop:=bdC j.Code∧bdS j.Begin∧(j.Names.length<=1000000∧ ∀x∈j.Names,x.length<=9000000000)∧(j.Lines.length<=1000000∧ ∀x∈j.Lines,x.length<=9000000000)
def y8(C:Bool)(j:C6):Bool:=D4 (gN j.Names) 0 j.Names.length&&(D4 (gT 200 j.Lines) 0 j.Lines.length&&(C&&(H1 j.Begin&&(decide (j.Names.length<=20)&&decide (j.Lines.length<=20)))))
theorem a1j(s:s8)(p q:Bool)(hb:bdS s):c6 Tryz.prog T1 L1 41 [.agg [.d (c8 p 2 (rV s.Vars)),.d (c8 q 3 (rC s.Cells)),.d (.v (.string (B (s.Out))))]] []=some (.one (.c (.d (.v (.bool (H1 s))))),[]):=by
 obtain⟨b1,b2,b3,b4,b5⟩:=hb
 have l1:=d9x 0 0 0 s.Out (.v (.slice none 0 0)) (.v (.slice none 0 0)) (.v (.slice none 0 0)) (.v (.slice none 0 0)) (c8 q 3 (rC s.Cells)) p s.Vars b1 b3
 have l2:=d5y 0 0 0 s.Out (.v (.slice none 0 0)) (.v (.slice none 0 0)) (.v (.slice none 0 0)) (.v (.slice none 0 0)) (c8 p 2 (rV s.Vars)) q s.Cells b2 b4
 unfold H1
 clear b3 b4
 cases h1:D4 (gV s.Vars) 0 s.Vars.length with
 |false=>
  rw[h1,if_neg (by simp)]at l1
  clear h1
  simp only[Bool.false_and]
  exact fn V41 Tryz.func41
 |true=>
  rw[h1,if_pos rfl]at l1
  clear h1
  rw[Bool.true_and]
  cases h2:D4 (gC s.Cells) 0 s.Cells.length with
  |false=>
   rw[h2,if_neg (by simp)]at l2
   clear h2
   simp only[Bool.false_and]
   exact fn V41 Tryz.func41
  |true=>
   rw[h2,if_pos rfl]at l2
   clear h2
   rw[Bool.true_and]
   by_cases g1:s.Vars.length<=60<;>by_cases g2:s.Cells.length<=2000<;>by_cases g3:s.Out.length<=3000
   all_goals
    simp only[g1,g2,g3,decide_true,decide_false,Bool.true_and,Bool.false_and,Bool.and_true,Bool.and_false]
    exact fn V41 Tryz.func41
theorem b4q(s:s8)(p q:Bool)(hb:bdS s):c6 Tryz.prog T1 L1 54 [.agg [.d (c8 p 2 (rV s.Vars)),.d (c8 q 3 (rC s.Cells)),.d (.v (.string (B (s.Out))))]] []=some (.one (.c (.d (.v (.bool (H1 s))))),[]):=by
 obtain⟨b1,b2,b3,b4,b5⟩:=hb
 have l1:=d9y 0 0 0 s.Out (.v (.slice none 0 0)) (.v (.slice none 0 0)) (.v (.slice none 0 0)) (.v (.slice none 0 0)) (c8 q 3 (rC s.Cells)) p s.Vars b1 b3
 have l2:=d5z 0 0 0 s.Out (.v (.slice none 0 0)) (.v (.slice none 0 0)) (.v (.slice none 0 0)) (.v (.slice none 0 0)) (c8 p 2 (rV s.Vars)) q s.Cells b2 b4
 unfold H1
 clear b3 b4
 cases h1:D4 (gV s.Vars) 0 s.Vars.length with
 |false=>
  rw[h1,if_neg (by simp)]at l1
  clear h1
  simp only[Bool.false_and]
  exact fn V54 Tryz.func54
 |true=>
  rw[h1,if_pos rfl]at l1
  clear h1
  rw[Bool.true_and]
  cases h2:D4 (gC s.Cells) 0 s.Cells.length with
  |false=>
   rw[h2,if_neg (by simp)]at l2
   clear h2
   simp only[Bool.false_and]
   exact fn V54 Tryz.func54
  |true=>
   rw[h2,if_pos rfl]at l2
   clear h2
   rw[Bool.true_and]
   by_cases g1:s.Vars.length<=60<;>by_cases g2:s.Cells.length<=2000<;>by_cases g3:s.Out.length<=3000
   all_goals
    simp only[g1,g2,g3,decide_true,decide_false,Bool.true_and,Bool.false_and,Bool.and_true,Bool.and_false]
    exact fn V54 Tryz.func54
theorem d6a(rd:List UInt8->Bool)(hR:C5 78 rd)(j:C6)(p1 p2 p3 p4 p5 p6:Bool)(hb:bdJ j):c6 Tryz.prog T1 L1 19 [.agg (x9 p1 p2 p3 p4 p5 p6 j)] []=some (.one (.c (.d (.v (.bool (y8 (q8 rd j.Code) j))))),[]):=by
 obtain⟨b1,b2,b3,b4⟩:=hb
 have c1:=a3f rd hR j.Code p1 p2 b1
 have c2:=a1j j.Begin p3 p4 b2
 have l1:=d5u j.Code.Begin j.Code.Line j.Code.End j.Begin.Out (c8 p1 1 (rS j.Code.Texts)) (c8 p2 2 (g9 j.Code.List)) (c8 p3 2 (rV j.Begin.Vars)) (c8 p4 3 (rC j.Begin.Cells)) (c8 p6 1 (rS j.Lines)) p5 j.Names b3.1 b3.2
 have l2:=d5w j.Code.Begin j.Code.Line j.Code.End j.Begin.Out (c8 p1 1 (rS j.Code.Texts)) (c8 p2 2 (g9 j.Code.List)) (c8 p3 2 (rV j.Begin.Vars)) (c8 p4 3 (rC j.Begin.Cells)) (c8 p5 1 (rS j.Names)) p6 j.Lines b4.1 b4.2
 unfold x9 y8
 have n1:=b3.1
 have n2:=b4.1
 clear b1 b2 b3 b4 hR
 generalize q8 rd j.Code=C at*
 generalize H1 j.Begin=S at*
 cases h1:D4 (gN j.Names) 0 j.Names.length with
 |false=>
  rw[h1,if_neg (by simp)]at l1
  clear h1
  simp only[Bool.false_and]
  exact fn V19 Tryz.func19
 |true=>
  rw[h1,if_pos rfl]at l1
  clear h1
  rw[Bool.true_and]
  cases h2:D4 (gT 200 j.Lines) 0 j.Lines.length with
  |false=>
   rw[h2,if_neg (by simp)]at l2
   clear h2
   simp only[Bool.false_and]
   exact fn V19 Tryz.func19
  |true=>
   rw[h2,if_pos rfl]at l2
   clear h2
   rw[Bool.true_and]
   cases C with
   |false=>
    simp only[Bool.false_and]
    exact fn V19 Tryz.func19
   |true=>
    cases S with
    |false=>
     simp only[Bool.false_and,Bool.and_false]
     exact fn V19 Tryz.func19
    |true=>
     by_cases g1:j.Names.length<=20<;>by_cases g2:j.Lines.length<=20
     all_goals
      simp only[g1,g2,decide_true,decide_false,Bool.true_and,Bool.false_and,Bool.and_true,Bool.and_false]
      exact fn V19 Tryz.func19
theorem d6b(rd:List UInt8->Bool)(hR:C5 82 rd)(j:C6)(p1 p2 p3 p4 p5 p6:Bool)(hb:bdJ j):c6 Tryz.prog T1 L1 33 [.agg (x9 p1 p2 p3 p4 p5 p6 j)] []=some (.one (.c (.d (.v (.bool (y8 (a6o rd j.Code) j))))),[]):=by
 obtain⟨b1,b2,b3,b4⟩:=hb
 have c1:=b7w rd hR j.Code p1 p2 b1
 have c2:=b4q j.Begin p3 p4 b2
 have l1:=d5v j.Code.Begin j.Code.Line j.Code.End j.Begin.Out (c8 p1 1 (rS j.Code.Texts)) (c8 p2 2 (g9 j.Code.List)) (c8 p3 2 (rV j.Begin.Vars)) (c8 p4 3 (rC j.Begin.Cells)) (c8 p6 1 (rS j.Lines)) p5 j.Names b3.1 b3.2
 have l2:=d5x j.Code.Begin j.Code.Line j.Code.End j.Begin.Out (c8 p1 1 (rS j.Code.Texts)) (c8 p2 2 (g9 j.Code.List)) (c8 p3 2 (rV j.Begin.Vars)) (c8 p4 3 (rC j.Begin.Cells)) (c8 p5 1 (rS j.Names)) p6 j.Lines b4.1 b4.2
 unfold x9 y8
 have n1:=b3.1
 have n2:=b4.1
 clear b1 b2 b3 b4 hR
 generalize a6o rd j.Code=C at*
 generalize H1 j.Begin=S at*
 cases h1:D4 (gN j.Names) 0 j.Names.length with
 |false=>
  rw[h1,if_neg (by simp)]at l1
  clear h1
  simp only[Bool.false_and]
  exact fn V33 Tryz.func33
 |true=>
  rw[h1,if_pos rfl]at l1
  clear h1
  rw[Bool.true_and]
  cases h2:D4 (gT 200 j.Lines) 0 j.Lines.length with
  |false=>
   rw[h2,if_neg (by simp)]at l2
   clear h2
   simp only[Bool.false_and]
   exact fn V33 Tryz.func33
  |true=>
   rw[h2,if_pos rfl]at l2
   clear h2
   rw[Bool.true_and]
   cases C with
   |false=>
    simp only[Bool.false_and]
    exact fn V33 Tryz.func33
   |true=>
    cases S with
    |false=>
     simp only[Bool.false_and,Bool.and_false]
     exact fn V33 Tryz.func33
    |true=>
     by_cases g1:j.Names.length<=20<;>by_cases g2:j.Lines.length<=20
     all_goals
      simp only[g1,g2,decide_true,decide_false,Bool.true_and,Bool.false_and,Bool.and_true,Bool.and_false]
      exact fn V33 Tryz.func33
end
end Go.Vsi
namespace Go.Vsi
open Go.Proofs
noncomputable section
set_option maxRecDepth 100000
set_option maxHeartbeats 4000000
set_option linter.unusedSimpArgs false
set_option linter.unusedVariables false
attribute [local go_sem ↓] v6
theorem e0a{ar:i6->Int->Bool}{L:List i6}{f i:Int}{H H':List Int}(h:S4 ar L f i H=some H'):ar (L.getD i.toNat ⟨0,0⟩) i=true:=by
 unfold S4 at h
 split at h
 ·cases h
 ·rename_i h1;simpa using h1
theorem c3y{ar:i6->Int->Bool}{L:List i6}{f:Int}: ∀(m:Nat)(i:Int)(H Hf:List Int),Y8 ar L f m i H=some Hf-> ∀k,i<=k->k<i+m->ar (L.getD k.toNat ⟨0,0⟩) k=true
 |0,i,H,Hf,h,k,h1,h2=>by simp at h2;omega
 |m+1,i,H,Hf,h,k,h1,h2=>by
  rw[Y8]at h
  cases hc:S4 ar L f i H with
  |none=>rw[hc]at h;cases h
  |some H'=>
   rw[hc]at h
   by_cases hk:k=i
   ·subst hk;exact e0a hc
   ·exact c3y m (i+1) H' Hf h k (by omega) (by omega)
theorem b5s{ar:i6->Int->Bool}{L:List i6}{f e:Int}(h:I1 ar L f e=true)(k:Int)(h1:f<=k)(h2:k<e):ar (L.getD k.toNat ⟨0,0⟩) k=true:=by
 unfold I1 at h
 split at h
 ·cases h
 ·rename_i Hf hc
  exact c3y _ _ _ _ hc k h1 (by omega)
theorem b4r{ar ar':i6->Int->Bool}{L:List i6}{f:Int}: ∀(m:Nat)(i:Int)(H:List Int),(∀k,i<=k->k<i+m->ar (L.getD k.toNat ⟨0,0⟩) k=ar' (L.getD k.toNat ⟨0,0⟩) k)->Y8 ar L f m i H=Y8 ar' L f m i H
 |0,i,H,h=>rfl
 |m+1,i,H,h=>by
  rw[Y8,Y8]
  have e:S4 ar L f i H=S4 ar' L f i H:=by
   unfold S4
   rw[h i (by omega) (by omega)]
  rw[e]
  cases S4 ar' L f i H with
  |none=>rfl
  |some H'=>exact b4r m (i+1) H' fun k h1 h2=>h k (by omega) (by omega)
theorem a9c{ar ar':i6->Int->Bool}{L:List i6}{f e:Int}(h: ∀k,f<=k->k<e->ar (L.getD k.toNat ⟨0,0⟩) k=ar' (L.getD k.toNat ⟨0,0⟩) k):I1 ar L f e=I1 ar' L f e:=by
 unfold I1
 by_cases hfe:f<=e
 ·rw[b4r _ _ _ fun k h1 h2=>h k h1 (by omega)]
 ·rw[show(e-f).toNat=0 by omega];rfl
theorem c8f(g:Nat->Bool): ∀(m k:Nat),(∀j,k<=j->j<k+m->g j=true)->D4 g k m=true
 |0,k,h=>rfl
 |m+1,k,h=>by
  rw[D4,h k (by omega) (by omega),Bool.true_and]
  exact c8f g m (k+1) fun j h1 h2=>h j (by omega) (by omega)
theorem a4e{c:n8}(h:szC c=true):c.Texts.length<=60∧c.List.length<=250∧c.Begin=0∧(0<=c.Line∧c.Line<=(c.List.length:Int))∧c.Line<=c.End∧c.End<=(c.List.length:Int):=by
 unfold szC at h
 simp only[Bool.and_eq_true,decide_eq_true_eq,X5]at h
 exact⟨h.1,h.2.1,h.2.2.1,h.2.2.2.1,h.2.2.2.2⟩
theorem d6c(rd:List UInt8->Bool)(c:n8)(hl:liC c=true)(hs:szC c=true):ptC (arS rd c.Texts) c=ptC (arI rd c.Texts) c:=by
 obtain⟨_,_,_,⟨h1,h2⟩,h3,h4⟩:=a4e hs
 have hr: ∀k:Int,0<=k->k<(c.List.length:Int)->b8r (c.List.getD k.toNat ⟨0,0⟩)=true:=fun k k1 k2=>U9 _ _ _ hl k.toNat (by omega) (by omega)
 have he: ∀(e k:Int),0<=k->k<(c.List.length:Int)->arS rd c.Texts e (c.List.getD k.toNat ⟨0,0⟩) k=arI rd c.Texts e (c.List.getD k.toNat ⟨0,0⟩) k:=fun e k k1 k2=>by
  unfold arS arI
  rw[hr k k1 k2,Bool.true_and]
 unfold ptC
 rw[a9c fun k k1 k2=>he c.Line k (by omega) (by omega),a9c fun k k1 k2=>he c.End k (by omega) (by omega),a9c fun k k1 k2=>he _ k (by omega) (by omega)]
theorem f0o(rd:List UInt8->Bool)(c:n8)(hs:szC c=true)(hp:ptC (arS rd c.Texts) c=true):liC c=true:=by
 obtain⟨_,_,_,⟨h1,h2⟩,h3,h4⟩:=a4e hs
 unfold ptC at hp
 simp only[Bool.and_eq_true]at hp
 refine c8f _ _ _ fun j j1 j2=>?_
 have hg: ∀e,arS rd c.Texts e (c.List.getD ((j:Int)).toNat ⟨0,0⟩) (j:Int)=true->gI c.List j=true:=fun e h=>by
  unfold arS at h
  rw[Bool.and_eq_true]at h
  exact h.1
 by_cases a1:(j:Int)<c.Line
 ·exact hg _ (b5s hp.1 j (by omega) a1)
 ·by_cases a2:(j:Int)<c.End
  ·exact hg _ (b5s hp.2.1 j (by omega) a2)
  ·exact hg _ (b5s hp.2.2 j (by omega) (by omega))
theorem c1a(rd:List UInt8->Bool)(c:n8):a6o rd c=q8 rd c:=by
 rw[Bool.eq_iff_iff]
 unfold a6o q8
 simp only[Bool.and_eq_true]
 constructor
 ·rintro⟨h1,h2,h3⟩
  have hl:=f0o rd c h2 h3
  exact⟨h1,hl,h2,by rw[<-d6c rd c hl h2];exact h3⟩
 ·rintro⟨h1,h2,h3,h4⟩
  exact⟨h1,h3,by rw[d6c rd c h2 h3];exact h4⟩
theorem a3g{rd:List UInt8->Bool}{c:n8}(h:q8 rd c=true):szC c=true∧(∀t∈c.Texts,t.length<=30)∧ ∀x∈c.List,(1<=x.Op∧x.Op<=24)∧0<=x.Arg∧x.Arg<=255:=by
 unfold q8 at h
 simp only[Bool.and_eq_true]at h
 refine⟨h.2.2.1,fun t ht=>?_,fun x hx=>?_⟩
 ·obtain⟨k,hk,e⟩:=a2b c.Texts [] t ht
  have:=U9 _ _ _ h.1 k (by omega) (by omega)
  unfold gT at this
  rw[e]at this
  simpa using this
 ·obtain⟨k,hk,e⟩:=a2b c.List ⟨0,0⟩ x hx
  have:=U9 _ _ _ h.2.1 k (by omega) (by omega)
  unfold gI b8r at this
  rw[e]at this
  simpa using this
theorem a1k{s:s8}(h:H1 s=true):s.Vars.length<=60∧s.Cells.length<=2000∧s.Out.length<=3000∧(∀x∈s.Vars,x.Name.length<=8∧x.Val.length<=40)∧ ∀x∈s.Cells,x.Name.length<=8∧x.Key.length<=40∧x.Val.length<=40:=by
 unfold H1 at h
 simp only[Bool.and_eq_true,decide_eq_true_eq]at h
 have hn: ∀s,nmB s=true->s.length<=8:=fun s hs=>by
  unfold nmB at hs
  simp only[Bool.and_eq_true,decide_eq_true_eq]at hs
  omega
 refine⟨h.2.2.1,h.2.2.2.1,h.2.2.2.2,fun x hx=>?_,fun x hx=>?_⟩
 ·obtain⟨k,hk,e⟩:=a2b s.Vars ⟨[],[]⟩ x hx
  have:=U9 _ _ _ h.1 k (by omega) (by omega)
  unfold gV vG at this
  rw[e]at this
  simp only[Bool.and_eq_true,decide_eq_true_eq]at this
  exact⟨hn _ this.1.1,this.1.2⟩
 ·obtain⟨k,hk,e⟩:=a2b s.Cells ⟨[],[],[]⟩ x hx
  have:=U9 _ _ _ h.2.1 k (by omega) (by omega)
  unfold gC cG at this
  rw[e]at this
  simp only[Bool.and_eq_true,decide_eq_true_eq]at this
  exact⟨hn _ this.1.1.1,this.1.1.2,this.1.2⟩
end
end Go.Vsi
