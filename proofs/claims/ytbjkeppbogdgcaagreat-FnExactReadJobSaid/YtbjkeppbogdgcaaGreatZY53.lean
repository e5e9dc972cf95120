/- What the functions of the program, of the reference and of the law do (a part of it). -/
import Derived.Test.YtbjkeppbogdgcaaGreatZY49
namespace Go.Vsi
open Go.Proofs
noncomputable section
set_option maxRecDepth 100000
set_option maxHeartbeats 4000000
set_option linter.unusedSimpArgs false
set_option linter.unusedVariables false
attribute [local go_sem ↓] v6
theorem e0x(s:List UInt8)(hs:s.length<=1048576)(x:C6)(ok:Bool)(hx:bGJ x)(hB:x.Code.Begin=0)(h1:x.Code.Texts≠[])(h2:x.Code.List=[])(h3:x.Begin.Vars=[])(h4:x.Begin.Cells=[])(w:fR 4 s (.tup [.agg (x9 true true true true true true x),.c (.d (.v (.bool (ok))))]) [])(r:fR 5 s (.tup [.agg [.arr 0 0 x.Code.Texts.length,nl,zi,.d (.v (.int .i64 (x.Code.Line))),.d (.v (.int .i64 (x.Code.End))),nl,nl,.d (.v (.string (B (x.Begin.Out)))),.arr 1 0 x.Names.length,.arr 2 0 x.Lines.length],.c (.d (.v (.bool (ok))))]) [some (.arr 1 (rS x.Code.Texts)),some (.arr 1 (rS x.Names)),some (.arr 1 (rS x.Lines))]):c6 Tryz.prog T1 L1 3 [.c (.d (.v (.string (B (s)))))] []=some (wb true,[]):=by
 obtain⟨b1,b2,b3,b4,b5,b6⟩:=hx
 have e:=H0 x ⟨b1,b2,b3,b4,b5,b6⟩ false true true true false false true true true true true true
 have m1:=a4n x.Code (1) ⟨b1,b2⟩ (by omega) h2
 have m2:=a0f x.Begin (1+(x.Code.Texts.length:Int)+2*(x.Code.List.length:Int)) ⟨b3,b4⟩ (by omega) h3 h4
 have m3:=i9 x.Names (1+(x.Code.Texts.length:Int)+2*(x.Code.List.length:Int)+2*(x.Begin.Vars.length:Int)+3*(x.Begin.Cells.length:Int)) (by omega) (by omega) (by omega)
 have m4:=i9 x.Lines (1+(x.Code.Texts.length:Int)+2*(x.Code.List.length:Int)+2*(x.Begin.Vars.length:Int)+3*(x.Begin.Cells.length:Int)+(x.Names.length:Int)) (by omega) (by omega) (by omega)
 rw[hB]at m1
 simp only[x9,hB,A8]at e w
 have q1:=i5 x.Code.Texts.length (1) (by omega) (by omega) (by omega)
 have q2:=D7 x.Code.List (1+(x.Code.Texts.length:Int)) h2
 have q3:=I0 x.Begin.Vars (1+(x.Code.Texts.length:Int)+2*(x.Code.List.length:Int)) h3
 have q4:=G5 x.Begin.Cells (1+(x.Code.Texts.length:Int)+2*(x.Code.List.length:Int)+2*(x.Begin.Vars.length:Int)) h4
 have q5:=i5 x.Names.length (1+(x.Code.Texts.length:Int)+2*(x.Code.List.length:Int)+2*(x.Begin.Vars.length:Int)+3*(x.Begin.Cells.length:Int)) (by omega) (by omega) (by omega)
 have q6:=i5 x.Lines.length (1+(x.Code.Texts.length:Int)+2*(x.Code.List.length:Int)+2*(x.Begin.Vars.length:Int)+3*(x.Begin.Cells.length:Int)+(x.Names.length:Int)) (by omega) (by omega) (by omega)
 have q:=A9 _ _ _ _ _ _ 0 x.Code.Line x.Code.End x.Begin.Out _ _ _ _ _ _ _ q1 q2 q3 q4 q5 q6 (by omega) (by omega) (by omega) (by omega) (by omega) (by omega)
 clear q1 q2 q3 q4 q5 q6
 have y1:=w6 x.Code.Texts
 have z2:c8 true 2 (g9 x.Code.List)=.v (.slice none 0 0):=j6 _ _ (by rw[h2];rfl)
 rw[z2]at e w
 have z3:c8 true 2 (rV x.Begin.Vars)=.v (.slice none 0 0):=j6 _ _ (by rw[h3];rfl)
 rw[z3]at e w
 have z4:c8 true 3 (rC x.Begin.Cells)=.v (.slice none 0 0):=j6 _ _ (by rw[h4];rfl)
 rw[z4]at e w
 have y5:=w6 x.Names
 have y6:=w6 x.Lines
 have mj:c6 Tryz.prog T1 L1 7 [.agg [.arr 0 0 x.Code.Texts.length,nl,zi,.d (.v (.int .i64 (x.Code.Line))),.d (.v (.int .i64 (x.Code.End))),nl,nl,.d (.v (.string (B (x.Begin.Out)))),.arr 1 0 x.Names.length,.arr 2 0 x.Lines.length],.c (.d (.v (.int .i64 (1))))] [some (.arr 1 (rS x.Code.Texts)),some (.arr 1 (rS x.Names)),some (.arr 1 (rS x.Lines))]=some (.one (.c (.d (.v (.int .i64 (1+(x.Code.Texts.length:Int)+2*(x.Code.List.length:Int)+2*(x.Begin.Vars.length:Int)+3*(x.Begin.Cells.length:Int)+(x.Names.length:Int)+(x.Lines.length:Int)))))),[some (.arr 1 (rS (mS x.Code.Texts.length (1)))),some (.arr 1 (rS (mS x.Names.length (1+(x.Code.Texts.length:Int)+2*(x.Code.List.length:Int)+2*(x.Begin.Vars.length:Int)+3*(x.Begin.Cells.length:Int))))),some (.arr 1 (rS (mS x.Lines.length (1+(x.Code.Texts.length:Int)+2*(x.Code.List.length:Int)+2*(x.Begin.Vars.length:Int)+3*(x.Begin.Cells.length:Int)+(x.Names.length:Int)))))]):=by
  clear e q w r
  clear hB h1 h2 h3 h4 z2 z3 z4
  exact fn V7 Tryz.func7
 clear m1 m2 m3 m4 hB h1 h2 h3 h4 z2 z3 z4
 have kp:0<=1+(x.Code.Texts.length:Int)+2*(x.Code.List.length:Int)+2*(x.Begin.Vars.length:Int)+3*(x.Begin.Cells.length:Int)+(x.Names.length:Int)+(x.Lines.length:Int):=by omega
 generalize 1+(x.Code.Texts.length:Int)+2*(x.Code.List.length:Int)+2*(x.Begin.Vars.length:Int)+3*(x.Begin.Cells.length:Int)+(x.Names.length:Int)+(x.Lines.length:Int)=K at q mj kp
 cases ok
 all_goals
  exact fn V3 Tryz.func3
theorem e0y(s:List UInt8)(hs:s.length<=1048576)(x:C6)(ok:Bool)(hx:bGJ x)(hB:x.Code.Begin=0)(h1:x.Code.Texts≠[])(h2:x.Code.List=[])(h3:x.Begin.Vars=[])(h4:x.Begin.Cells≠[])(w:fR 4 s (.tup [.agg (x9 true true true true true true x),.c (.d (.v (.bool (ok))))]) [])(r:fR 5 s (.tup [.agg [.arr 0 0 x.Code.Texts.length,nl,zi,.d (.v (.int .i64 (x.Code.Line))),.d (.v (.int .i64 (x.Code.End))),nl,.arr 1 0 x.Begin.Cells.length,.d (.v (.string (B (x.Begin.Out)))),.arr 2 0 x.Names.length,.arr 3 0 x.Lines.length],.c (.d (.v (.bool (ok))))]) [some (.arr 1 (rS x.Code.Texts)),some (.arr 3 (rC x.Begin.Cells)),some (.arr 1 (rS x.Names)),some (.arr 1 (rS x.Lines))]):c6 Tryz.prog T1 L1 3 [.c (.d (.v (.string (B (s)))))] []=some (wb true,[]):=by
 obtain⟨b1,b2,b3,b4,b5,b6⟩:=hx
 have e:=H0 x ⟨b1,b2,b3,b4,b5,b6⟩ false true true false false false true true true true true true
 have m1:=a4n x.Code (1) ⟨b1,b2⟩ (by omega) h2
 have m2:=a3d x.Begin (1+(x.Code.Texts.length:Int)+2*(x.Code.List.length:Int)) ⟨b3,b4⟩ (by omega) h3
 have m3:=i9 x.Names (1+(x.Code.Texts.length:Int)+2*(x.Code.List.length:Int)+2*(x.Begin.Vars.length:Int)+3*(x.Begin.Cells.length:Int)) (by omega) (by omega) (by omega)
 have m4:=i9 x.Lines (1+(x.Code.Texts.length:Int)+2*(x.Code.List.length:Int)+2*(x.Begin.Vars.length:Int)+3*(x.Begin.Cells.length:Int)+(x.Names.length:Int)) (by omega) (by omega) (by omega)
 rw[hB]at m1
 simp only[x9,hB,A8]at e w
 have q1:=i5 x.Code.Texts.length (1) (by omega) (by omega) (by omega)
 have q2:=D7 x.Code.List (1+(x.Code.Texts.length:Int)) h2
 have q3:=I0 x.Begin.Vars (1+(x.Code.Texts.length:Int)+2*(x.Code.List.length:Int)) h3
 have q4:=K3 x.Begin.Cells.length (1+(x.Code.Texts.length:Int)+2*(x.Code.List.length:Int)+2*(x.Begin.Vars.length:Int)) (by omega) (by omega) (by omega)
 have q5:=i5 x.Names.length (1+(x.Code.Texts.length:Int)+2*(x.Code.List.length:Int)+2*(x.Begin.Vars.length:Int)+3*(x.Begin.Cells.length:Int)) (by omega) (by omega) (by omega)
 have q6:=i5 x.Lines.length (1+(x.Code.Texts.length:Int)+2*(x.Code.List.length:Int)+2*(x.Begin.Vars.length:Int)+3*(x.Begin.Cells.length:Int)+(x.Names.length:Int)) (by omega) (by omega) (by omega)
 have q:=A9 _ _ _ _ _ _ 0 x.Code.Line x.Code.End x.Begin.Out _ _ _ _ _ _ _ q1 q2 q3 q4 q5 q6 (by omega) (by omega) (by omega) (by omega) (by omega) (by omega)
 clear q1 q2 q3 q4 q5 q6
 have y1:=w6 x.Code.Texts
 have z2:c8 true 2 (g9 x.Code.List)=.v (.slice none 0 0):=j6 _ _ (by rw[h2];rfl)
 rw[z2]at e w
 have z3:c8 true 2 (rV x.Begin.Vars)=.v (.slice none 0 0):=j6 _ _ (by rw[h3];rfl)
 rw[z3]at e w
 have y4:=a5u x.Begin.Cells
 have y5:=w6 x.Names
 have y6:=w6 x.Lines
 have mj:c6 Tryz.prog T1 L1 7 [.agg [.arr 0 0 x.Code.Texts.length,nl,zi,.d (.v (.int .i64 (x.Code.Line))),.d (.v (.int .i64 (x.Code.End))),nl,.arr 1 0 x.Begin.Cells.length,.d (.v (.string (B (x.Begin.Out)))),.arr 2 0 x.Names.length,.arr 3 0 x.Lines.length],.c (.d (.v (.int .i64 (1))))] [some (.arr 1 (rS x.Code.Texts)),some (.arr 3 (rC x.Begin.Cells)),some (.arr 1 (rS x.Names)),some (.arr 1 (rS x.Lines))]=some (.one (.c (.d (.v (.int .i64 (1+(x.Code.Texts.length:Int)+2*(x.Code.List.length:Int)+2*(x.Begin.Vars.length:Int)+3*(x.Begin.Cells.length:Int)+(x.Names.length:Int)+(x.Lines.length:Int)))))),[some (.arr 1 (rS (mS x.Code.Texts.length (1)))),some (.arr 3 (rC (mC x.Begin.Cells.length (1+(x.Code.Texts.length:Int)+2*(x.Code.List.length:Int)+2*(x.Begin.Vars.length:Int))))),some (.arr 1 (rS (mS x.Names.length (1+(x.Code.Texts.length:Int)+2*(x.Code.List.length:Int)+2*(x.Begin.Vars.length:Int)+3*(x.Begin.Cells.length:Int))))),some (.arr 1 (rS (mS x.Lines.length (1+(x.Code.Texts.length:Int)+2*(x.Code.List.length:Int)+2*(x.Begin.Vars.length:Int)+3*(x.Begin.Cells.length:Int)+(x.Names.length:Int)))))]):=by
  clear e q w r
  clear hB h1 h2 h3 h4 z2 z3
  exact fn V7 Tryz.func7
 clear m1 m2 m3 m4 hB h1 h2 h3 h4 z2 z3
 have kp:0<=1+(x.Code.Texts.length:Int)+2*(x.Code.List.length:Int)+2*(x.Begin.Vars.length:Int)+3*(x.Begin.Cells.length:Int)+(x.Names.length:Int)+(x.Lines.length:Int):=by omega
 generalize 1+(x.Code.Texts.length:Int)+2*(x.Code.List.length:Int)+2*(x.Begin.Vars.length:Int)+3*(x.Begin.Cells.length:Int)+(x.Names.length:Int)+(x.Lines.length:Int)=K at q mj kp
 cases ok
 all_goals
  exact fn V3 Tryz.func3
theorem e0z(s:List UInt8)(hs:s.length<=1048576)(x:C6)(ok:Bool)(hx:bGJ x)(hB:x.Code.Begin=0)(h1:x.Code.Texts≠[])(h2:x.Code.List=[])(h3:x.Begin.Vars≠[])(h4:x.Begin.Cells=[])(w:fR 4 s (.tup [.agg (x9 true true true true true true x),.c (.d (.v (.bool (ok))))]) [])(r:fR 5 s (.tup [.agg [.arr 0 0 x.Code.Texts.length,nl,zi,.d (.v (.int .i64 (x.Code.Line))),.d (.v (.int .i64 (x.Code.End))),.arr 1 0 x.Begin.Vars.length,nl,.d (.v (.string (B (x.Begin.Out)))),.arr 2 0 x.Names.length,.arr 3 0 x.Lines.length],.c (.d (.v (.bool (ok))))]) [some (.arr 1 (rS x.Code.Texts)),some (.arr 2 (rV x.Begin.Vars)),some (.arr 1 (rS x.Names)),some (.arr 1 (rS x.Lines))]):c6 Tryz.prog T1 L1 3 [.c (.d (.v (.string (B (s)))))] []=some (wb true,[]):=by
 obtain⟨b1,b2,b3,b4,b5,b6⟩:=hx
 have e:=H0 x ⟨b1,b2,b3,b4,b5,b6⟩ false true false true false false true true true true true true
 have m1:=a4n x.Code (1) ⟨b1,b2⟩ (by omega) h2
 have m2:=a3c x.Begin (1+(x.Code.Texts.length:Int)+2*(x.Code.List.length:Int)) ⟨b3,b4⟩ (by omega) h4
 have m3:=i9 x.Names (1+(x.Code.Texts.length:Int)+2*(x.Code.List.length:Int)+2*(x.Begin.Vars.length:Int)+3*(x.Begin.Cells.length:Int)) (by omega) (by omega) (by omega)
 have m4:=i9 x.Lines (1+(x.Code.Texts.length:Int)+2*(x.Code.List.length:Int)+2*(x.Begin.Vars.length:Int)+3*(x.Begin.Cells.length:Int)+(x.Names.length:Int)) (by omega) (by omega) (by omega)
 rw[hB]at m1
 simp only[x9,hB,A8]at e w
 have q1:=i5 x.Code.Texts.length (1) (by omega) (by omega) (by omega)
 have q2:=D7 x.Code.List (1+(x.Code.Texts.length:Int)) h2
 have q3:=N3 x.Begin.Vars.length (1+(x.Code.Texts.length:Int)+2*(x.Code.List.length:Int)) (by omega) (by omega) (by omega)
 have q4:=G5 x.Begin.Cells (1+(x.Code.Texts.length:Int)+2*(x.Code.List.length:Int)+2*(x.Begin.Vars.length:Int)) h4
 have q5:=i5 x.Names.length (1+(x.Code.Texts.length:Int)+2*(x.Code.List.length:Int)+2*(x.Begin.Vars.length:Int)+3*(x.Begin.Cells.length:Int)) (by omega) (by omega) (by omega)
 have q6:=i5 x.Lines.length (1+(x.Code.Texts.length:Int)+2*(x.Code.List.length:Int)+2*(x.Begin.Vars.length:Int)+3*(x.Begin.Cells.length:Int)+(x.Names.length:Int)) (by omega) (by omega) (by omega)
 have q:=A9 _ _ _ _ _ _ 0 x.Code.Line x.Code.End x.Begin.Out _ _ _ _ _ _ _ q1 q2 q3 q4 q5 q6 (by omega) (by omega) (by omega) (by omega) (by omega) (by omega)
 clear q1 q2 q3 q4 q5 q6
 have y1:=w6 x.Code.Texts
 have z2:c8 true 2 (g9 x.Code.List)=.v (.slice none 0 0):=j6 _ _ (by rw[h2];rfl)
 rw[z2]at e w
 have y3:=a5t x.Begin.Vars
 have z4:c8 true 3 (rC x.Begin.Cells)=.v (.slice none 0 0):=j6 _ _ (by rw[h4];rfl)
 rw[z4]at e w
 have y5:=w6 x.Names
 have y6:=w6 x.Lines
 have mj:c6 Tryz.prog T1 L1 7 [.agg [.arr 0 0 x.Code.Texts.length,nl,zi,.d (.v (.int .i64 (x.Code.Line))),.d (.v (.int .i64 (x.Code.End))),.arr 1 0 x.Begin.Vars.length,nl,.d (.v (.string (B (x.Begin.Out)))),.arr 2 0 x.Names.length,.arr 3 0 x.Lines.length],.c (.d (.v (.int .i64 (1))))] [some (.arr 1 (rS x.Code.Texts)),some (.arr 2 (rV x.Begin.Vars)),some (.arr 1 (rS x.Names)),some (.arr 1 (rS x.Lines))]=some (.one (.c (.d (.v (.int .i64 (1+(x.Code.Texts.length:Int)+2*(x.Code.List.length:Int)+2*(x.Begin.Vars.length:Int)+3*(x.Begin.Cells.length:Int)+(x.Names.length:Int)+(x.Lines.length:Int)))))),[some (.arr 1 (rS (mS x.Code.Texts.length (1)))),some (.arr 2 (rV (mV x.Begin.Vars.length (1+(x.Code.Texts.length:Int)+2*(x.Code.List.length:Int))))),some (.arr 1 (rS (mS x.Names.length (1+(x.Code.Texts.length:Int)+2*(x.Code.List.length:Int)+2*(x.Begin.Vars.length:Int)+3*(x.Begin.Cells.length:Int))))),some (.arr 1 (rS (mS x.Lines.length (1+(x.Code.Texts.length:Int)+2*(x.Code.List.length:Int)+2*(x.Begin.Vars.length:Int)+3*(x.Begin.Cells.length:Int)+(x.Names.length:Int)))))]):=by
  clear e q w r
  clear hB h1 h2 h3 h4 z2 z4
  exact fn V7 Tryz.func7
 clear m1 m2 m3 m4 hB h1 h2 h3 h4 z2 z4
 have kp:0<=1+(x.Code.Texts.length:Int)+2*(x.Code.List.length:Int)+2*(x.Begin.Vars.length:Int)+3*(x.Begin.Cells.length:Int)+(x.Names.length:Int)+(x.Lines.length:Int):=by omega
 generalize 1+(x.Code.Texts.length:Int)+2*(x.Code.List.length:Int)+2*(x.Begin.Vars.length:Int)+3*(x.Begin.Cells.length:Int)+(x.Names.length:Int)+(x.Lines.length:Int)=K at q mj kp
 cases ok
 all_goals
  exact fn V3 Tryz.func3
theorem e1a(s:List UInt8)(hs:s.length<=1048576)(x:C6)(ok:Bool)(hx:bGJ x)(hB:x.Code.Begin=0)(h1:x.Code.Texts≠[])(h2:x.Code.List=[])(h3:x.Begin.Vars≠[])(h4:x.Begin.Cells≠[])(w:fR 4 s (.tup [.agg (x9 true true true true true true x),.c (.d (.v (.bool (ok))))]) [])(r:fR 5 s (.tup [.agg [.arr 0 0 x.Code.Texts.length,nl,zi,.d (.v (.int .i64 (x.Code.Line))),.d (.v (.int .i64 (x.Code.End))),.arr 1 0 x.Begin.Vars.length,.arr 2 0 x.Begin.Cells.length,.d (.v (.string (B (x.Begin.Out)))),.arr 3 0 x.Names.length,.arr 4 0 x.Lines.length],.c (.d (.v (.bool (ok))))]) [some (.arr 1 (rS x.Code.Texts)),some (.arr 2 (rV x.Begin.Vars)),some (.arr 3 (rC x.Begin.Cells)),some (.arr 1 (rS x.Names)),some (.arr 1 (rS x.Lines))]):c6 Tryz.prog T1 L1 3 [.c (.d (.v (.string (B (s)))))] []=some (wb true,[]):=by
 obtain⟨b1,b2,b3,b4,b5,b6⟩:=hx
 have e:=H0 x ⟨b1,b2,b3,b4,b5,b6⟩ false true false false false false true true true true true true
 have m1:=a4n x.Code (1) ⟨b1,b2⟩ (by omega) h2
 have m2:=a3b x.Begin (1+(x.Code.Texts.length:Int)+2*(x.Code.List.length:Int)) ⟨b3,b4⟩ (by omega)
 have m3:=i9 x.Names (1+(x.Code.Texts.length:Int)+2*(x.Code.List.length:Int)+2*(x.Begin.Vars.length:Int)+3*(x.Begin.Cells.length:Int)) (by omega) (by omega) (by omega)
 have m4:=i9 x.Lines (1+(x.Code.Texts.length:Int)+2*(x.Code.List.length:Int)+2*(x.Begin.Vars.length:Int)+3*(x.Begin.Cells.length:Int)+(x.Names.length:Int)) (by omega) (by omega) (by omega)
 rw[hB]at m1
 simp only[x9,hB,A8]at e w
 have q1:=i5 x.Code.Texts.length (1) (by omega) (by omega) (by omega)
 have q2:=D7 x.Code.List (1+(x.Code.Texts.length:Int)) h2
 have q3:=N3 x.Begin.Vars.length (1+(x.Code.Texts.length:Int)+2*(x.Code.List.length:Int)) (by omega) (by omega) (by omega)
 have q4:=K3 x.Begin.Cells.length (1+(x.Code.Texts.length:Int)+2*(x.Code.List.length:Int)+2*(x.Begin.Vars.length:Int)) (by omega) (by omega) (by omega)
 have q5:=i5 x.Names.length (1+(x.Code.Texts.length:Int)+2*(x.Code.List.length:Int)+2*(x.Begin.Vars.length:Int)+3*(x.Begin.Cells.length:Int)) (by omega) (by omega) (by omega)
 have q6:=i5 x.Lines.length (1+(x.Code.Texts.length:Int)+2*(x.Code.List.length:Int)+2*(x.Begin.Vars.length:Int)+3*(x.Begin.Cells.length:Int)+(x.Names.length:Int)) (by omega) (by omega) (by omega)
 have q:=A9 _ _ _ _ _ _ 0 x.Code.Line x.Code.End x.Begin.Out _ _ _ _ _ _ _ q1 q2 q3 q4 q5 q6 (by omega) (by omega) (by omega) (by omega) (by omega) (by omega)
 clear q1 q2 q3 q4 q5 q6
 have y1:=w6 x.Code.Texts
 have z2:c8 true 2 (g9 x.Code.List)=.v (.slice none 0 0):=j6 _ _ (by rw[h2];rfl)
 rw[z2]at e w
 have y3:=a5t x.Begin.Vars
 have y4:=a5u x.Begin.Cells
 have y5:=w6 x.Names
 have y6:=w6 x.Lines
 have mj:c6 Tryz.prog T1 L1 7 [.agg [.arr 0 0 x.Code.Texts.length,nl,zi,.d (.v (.int .i64 (x.Code.Line))),.d (.v (.int .i64 (x.Code.End))),.arr 1 0 x.Begin.Vars.length,.arr 2 0 x.Begin.Cells.length,.d (.v (.string (B (x.Begin.Out)))),.arr 3 0 x.Names.length,.arr 4 0 x.Lines.length],.c (.d (.v (.int .i64 (1))))] [some (.arr 1 (rS x.Code.Texts)),some (.arr 2 (rV x.Begin.Vars)),some (.arr 3 (rC x.Begin.Cells)),some (.arr 1 (rS x.Names)),some (.arr 1 (rS x.Lines))]=some (.one (.c (.d (.v (.int .i64 (1+(x.Code.Texts.length:Int)+2*(x.Code.List.length:Int)+2*(x.Begin.Vars.length:Int)+3*(x.Begin.Cells.length:Int)+(x.Names.length:Int)+(x.Lines.length:Int)))))),[some (.arr 1 (rS (mS x.Code.Texts.length (1)))),some (.arr 2 (rV (mV x.Begin.Vars.length (1+(x.Code.Texts.length:Int)+2*(x.Code.List.length:Int))))),some (.arr 3 (rC (mC x.Begin.Cells.length (1+(x.Code.Texts.length:Int)+2*(x.Code.List.length:Int)+2*(x.Begin.Vars.length:Int))))),some (.arr 1 (rS (mS x.Names.length (1+(x.Code.Texts.length:Int)+2*(x.Code.List.length:Int)+2*(x.Begin.Vars.length:Int)+3*(x.Begin.Cells.length:Int))))),some (.arr 1 (rS (mS x.Lines.length (1+(x.Code.Texts.length:Int)+2*(x.Code.List.length:Int)+2*(x.Begin.Vars.length:Int)+3*(x.Begin.Cells.length:Int)+(x.Names.length:Int)))))]):=by
  clear e q w r
  clear hB h1 h2 h3 h4 z2
  exact fn V7 Tryz.func7
 clear m1 m2 m3 m4 hB h1 h2 h3 h4 z2
 have kp:0<=1+(x.Code.Texts.length:Int)+2*(x.Code.List.length:Int)+2*(x.Begin.Vars.length:Int)+3*(x.Begin.Cells.length:Int)+(x.Names.length:Int)+(x.Lines.length:Int):=by omega
 generalize 1+(x.Code.Texts.length:Int)+2*(x.Code.List.length:Int)+2*(x.Begin.Vars.length:Int)+3*(x.Begin.Cells.length:Int)+(x.Names.length:Int)+(x.Lines.length:Int)=K at q mj kp
 cases ok
 all_goals
  exact fn V3 Tryz.func3
end
end Go.Vsi
