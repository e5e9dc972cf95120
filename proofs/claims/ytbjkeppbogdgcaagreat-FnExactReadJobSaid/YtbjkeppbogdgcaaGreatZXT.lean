/- What the functions of the program, of the reference and of the law do (a part of it). -/
import Derived.Test.YtbjkeppbogdgcaaGreatProg
import Derived.Test.YtbjkeppbogdgcaaGreatZV2
import Derived.KernelRfl
set_option linter.unusedVariables false
namespace Go.Vsi
open Go.Proofs
def T:C0:=mkT [(42,2,[0,5,6]),(85,2,[0,3]),(86,2,[1,6,7,8]),(88,2,[0,3]),(89,4,[0,3]),(93,4,[0,3]),(97,2,[0,3]),(99,2,[1,7,8,9]),(100,2,[0,3]),(106,7,[0,3,4]),(107,3,[0,3,4]),(112,15,[0,1,5,6,7,8,9,10])] [(42,2,[0,2]),(85,2,[3]),(86,2,[1,2]),(88,2,[3]),(89,4,[3]),(93,4,[3]),(97,2,[2,3]),(99,2,[4]),(100,2,[3]),(106,7,[0,3,4]),(107,3,[2]),(112,15,[4])] [] [] [] [] []
theorem f3k:b2u T.lend=false:=by kernel_rfl
theorem f3l:T.keep 42 2=[0,5,6]∧T.out 42 2=[0,2]:=⟨by kernel_rfl,by kernel_rfl⟩
theorem f3m:T.keep 85 2=[0,3]∧T.out 85 2=[3]:=⟨by kernel_rfl,by kernel_rfl⟩
theorem f3n:T.keep 86 2=[1,6,7,8]∧T.out 86 2=[1,2]:=⟨by kernel_rfl,by kernel_rfl⟩
theorem f3o:T.keep 88 2=[0,3]∧T.out 88 2=[3]:=⟨by kernel_rfl,by kernel_rfl⟩
theorem f3p:T.keep 89 4=[0,3]∧T.out 89 4=[3]:=⟨by kernel_rfl,by kernel_rfl⟩
theorem f3q:T.keep 93 4=[0,3]∧T.out 93 4=[3]:=⟨by kernel_rfl,by kernel_rfl⟩
theorem f3r:T.keep 97 2=[0,3]∧T.out 97 2=[2,3]:=⟨by kernel_rfl,by kernel_rfl⟩
theorem f3s:T.keep 99 2=[1,7,8,9]∧T.out 99 2=[4]:=⟨by kernel_rfl,by kernel_rfl⟩
theorem e8q:T.keep 100 2=[0,3]∧T.out 100 2=[3]:=⟨by kernel_rfl,by kernel_rfl⟩
theorem e8r:T.keep 106 7=[0,3,4]∧T.out 106 7=[0,3,4]:=⟨by kernel_rfl,by kernel_rfl⟩
theorem e8s:T.keep 107 3=[0,3,4]∧T.out 107 3=[2]:=⟨by kernel_rfl,by kernel_rfl⟩
theorem e3h:T.keep 112 15=[0,1,5,6,7,8,9,10]∧T.out 112 15=[4]:=⟨by kernel_rfl,by kernel_rfl⟩
theorem W42:m8 Tryz.prog T 42 true false:=h9 (by kernel_rfl)
theorem W55:m8 Tryz.prog T 55 true false:=h9 (by kernel_rfl)
theorem W58:m8 Tryz.prog T 58 true false:=h9 (by kernel_rfl)
theorem W61:m8 Tryz.prog T 61 true false:=h9 (by kernel_rfl)
theorem W67:m8 Tryz.prog T 67 true false:=h9 (by kernel_rfl)
theorem W78:m8 Tryz.prog T 78 true false:=h9 (by kernel_rfl)
theorem W80:m8 Tryz.prog T 80 true false:=h9 (by kernel_rfl)
theorem W81:m8 Tryz.prog T 81 true false:=h9 (by kernel_rfl)
theorem W82:m8 Tryz.prog T 82 true false:=h9 (by kernel_rfl)
theorem T0:m8 Tryz.prog T 85 true false:=h9 (by kernel_rfl)
theorem W86:m8 Tryz.prog T 86 true false:=h9 (by kernel_rfl)
theorem W88:m8 Tryz.prog T 88 true false:=h9 (by kernel_rfl)
theorem L8:m8 Tryz.prog T 89 true false:=h9 (by kernel_rfl)
theorem W90:m8 Tryz.prog T 90 true false:=h9 (by kernel_rfl)
theorem W91:m8 Tryz.prog T 91 true false:=h9 (by kernel_rfl)
theorem W92:m8 Tryz.prog T 92 true false:=h9 (by kernel_rfl)
theorem T2:m8 Tryz.prog T 93 true false:=h9 (by kernel_rfl)
theorem W94:m8 Tryz.prog T 94 true false:=h9 (by kernel_rfl)
theorem W95:m8 Tryz.prog T 95 true false:=h9 (by kernel_rfl)
theorem W96:m8 Tryz.prog T 96 true false:=h9 (by kernel_rfl)
theorem W97:m8 Tryz.prog T 97 true false:=h9 (by kernel_rfl)
theorem W98:m8 Tryz.prog T 98 true false:=h9 (by kernel_rfl)
theorem W99:m8 Tryz.prog T 99 true false:=h9 (by kernel_rfl)
theorem O1:m8 Tryz.prog T 100 true false:=h9 (by kernel_rfl)
theorem a0y:m8 Tryz.prog T 101 true false:=h9 (by kernel_rfl)
theorem R6:m8 Tryz.prog T 102 true false:=h9 (by kernel_rfl)
theorem c2z:m8 Tryz.prog T 103 true false:=h9 (by kernel_rfl)
theorem c3a:m8 Tryz.prog T 104 true false:=h9 (by kernel_rfl)
theorem a7c:m8 Tryz.prog T 105 true false:=h9 (by kernel_rfl)
theorem a1x:m8 Tryz.prog T 106 true false:=h9 (by kernel_rfl)
theorem b5m:m8 Tryz.prog T 107 true false:=h9 (by kernel_rfl)
theorem c3b:m8 Tryz.prog T 108 true false:=h9 (by kernel_rfl)
theorem e8t:m8 Tryz.prog T 109 true false:=h9 (by kernel_rfl)
theorem c3c:m8 Tryz.prog T 110 true false:=h9 (by kernel_rfl)
theorem f7e:m8 Tryz.prog T 111 true false:=h9 (by kernel_rfl)
theorem d9d:m8 Tryz.prog T 112 true false:=h9 (by kernel_rfl)
theorem Y3:TY Tryz.prog 3 Tryz.t3 1 8 false:=⟨by kernel_rfl,rfl,by kernel_rfl,by kernel_rfl,by kernel_rfl⟩
theorem Z3:zeroCells Tryz.prog 3=some [.d (.v (.int .i64 0))]:=by kernel_rfl
theorem Y4:TY Tryz.prog 4 Tryz.t4 1 1 false:=⟨by kernel_rfl,rfl,by kernel_rfl,by kernel_rfl,by kernel_rfl⟩
theorem Z4:zeroCells Tryz.prog 4=some [.d (.v (.bool false))]:=by kernel_rfl
theorem Y5:TY Tryz.prog 5 Tryz.t5 1 1 false:=⟨by kernel_rfl,rfl,by kernel_rfl,by kernel_rfl,by kernel_rfl⟩
theorem Z5:zeroCells Tryz.prog 5=some [.d (.v (.int .u8 0))]:=by kernel_rfl
theorem Y9:TY Tryz.prog 9 Tryz.t9 1 16 false:=⟨by kernel_rfl,rfl,by kernel_rfl,by kernel_rfl,by kernel_rfl⟩
theorem Z9:zeroCells Tryz.prog 9=some [.d (.v (.string .empty))]:=by kernel_rfl
theorem Y22:TY Tryz.prog 22 Tryz.t22 1 24 false:=⟨by kernel_rfl,rfl,by kernel_rfl,by kernel_rfl,by kernel_rfl⟩
theorem E22:D6 Tryz.prog 22=some 9:=by kernel_rfl
theorem Z22:zeroCells Tryz.prog 22=some [.d (.v (.slice none 0 0))]:=by kernel_rfl
theorem Y23:TY Tryz.prog 23 Tryz.t23 1 24 false:=⟨by kernel_rfl,rfl,by kernel_rfl,by kernel_rfl,by kernel_rfl⟩
theorem E23:D6 Tryz.prog 23=some 62:=by kernel_rfl
theorem Z23:zeroCells Tryz.prog 23=some [.d (.v (.slice none 0 0))]:=by kernel_rfl
theorem Y25:TY Tryz.prog 25 Tryz.t25 5 72 true:=⟨by kernel_rfl,rfl,by kernel_rfl,by kernel_rfl,by kernel_rfl⟩
theorem Z25:zeroCells Tryz.prog 25=some [.d (.v (.slice none 0 0)),.d (.v (.slice none 0 0)),.d (.v (.int .i64 0)),.d (.v (.int .i64 0)),.d (.v (.int .i64 0))]:=by kernel_rfl
theorem Y26:TY Tryz.prog 26 Tryz.t26 1 24 false:=⟨by kernel_rfl,rfl,by kernel_rfl,by kernel_rfl,by kernel_rfl⟩
theorem E26:D6 Tryz.prog 26=some 67:=by kernel_rfl
theorem Z26:zeroCells Tryz.prog 26=some [.d (.v (.slice none 0 0))]:=by kernel_rfl
theorem Y27:TY Tryz.prog 27 Tryz.t27 1 24 false:=⟨by kernel_rfl,rfl,by kernel_rfl,by kernel_rfl,by kernel_rfl⟩
theorem E27:D6 Tryz.prog 27=some 69:=by kernel_rfl
theorem Z27:zeroCells Tryz.prog 27=some [.d (.v (.slice none 0 0))]:=by kernel_rfl
theorem Y29:TY Tryz.prog 29 Tryz.t29 3 64 true:=⟨by kernel_rfl,rfl,by kernel_rfl,by kernel_rfl,by kernel_rfl⟩
theorem Z29:zeroCells Tryz.prog 29=some [.d (.v (.slice none 0 0)),.d (.v (.slice none 0 0)),.d (.v (.string .empty))]:=by kernel_rfl
theorem Y31:TY Tryz.prog 31 Tryz.t31 10 184 true:=⟨by kernel_rfl,rfl,by kernel_rfl,by kernel_rfl,by kernel_rfl⟩
theorem Z31:zeroCells Tryz.prog 31=some [.d (.v (.slice none 0 0)),.d (.v (.slice none 0 0)),.d (.v (.int .i64 0)),.d (.v (.int .i64 0)),.d (.v (.int .i64 0)),.d (.v (.slice none 0 0)),.d (.v (.slice none 0 0)),.d (.v (.string .empty)),.d (.v (.slice none 0 0)),.d (.v (.slice none 0 0))]:=by kernel_rfl
theorem Y62:TY Tryz.prog 62 Tryz.t62 2 16 true:=⟨by kernel_rfl,rfl,by kernel_rfl,by kernel_rfl,by kernel_rfl⟩
theorem Z62:zeroCells Tryz.prog 62=some [.d (.v (.int .i64 0)),.d (.v (.int .i64 0))]:=by kernel_rfl
theorem Y67:TY Tryz.prog 67 Tryz.t67 2 32 true:=⟨by kernel_rfl,rfl,by kernel_rfl,by kernel_rfl,by kernel_rfl⟩
theorem Z67:zeroCells Tryz.prog 67=some [.d (.v (.string .empty)),.d (.v (.string .empty))]:=by kernel_rfl
theorem Y69:TY Tryz.prog 69 Tryz.t69 3 48 true:=⟨by kernel_rfl,rfl,by kernel_rfl,by kernel_rfl,by kernel_rfl⟩
theorem Z69:zeroCells Tryz.prog 69=some [.d (.v (.string .empty)),.d (.v (.string .empty)),.d (.v (.string .empty))]:=by kernel_rfl
theorem Y85:TY Tryz.prog 85 Tryz.t85 1 24 false:=⟨by kernel_rfl,rfl,by kernel_rfl,by kernel_rfl,by kernel_rfl⟩
theorem E85:D6 Tryz.prog 85=some 5:=by kernel_rfl
theorem Z85:zeroCells Tryz.prog 85=some [.d (.v (.slice none 0 0))]:=by kernel_rfl
theorem Y93:TY Tryz.prog 93 Tryz.t93 1 24 false:=⟨by kernel_rfl,rfl,by kernel_rfl,by kernel_rfl,by kernel_rfl⟩
theorem E93:D6 Tryz.prog 93=some 3:=by kernel_rfl
theorem Z93:zeroCells Tryz.prog 93=some [.d (.v (.slice none 0 0))]:=by kernel_rfl
theorem f7f:TY Tryz.prog 105 Tryz.t105 1 24 false:=⟨by kernel_rfl,rfl,by kernel_rfl,by kernel_rfl,by kernel_rfl⟩
theorem f7g:D6 Tryz.prog 105=some 126:=by kernel_rfl
theorem f7h:zeroCells Tryz.prog 105=some [.d (.v (.slice none 0 0))]:=by kernel_rfl
theorem f7i:TY Tryz.prog 107 Tryz.t107 1 24 true:=⟨by kernel_rfl,rfl,by kernel_rfl,by kernel_rfl,by kernel_rfl⟩
theorem f7j:zeroCells Tryz.prog 107=some [.d (.v (.slice none 0 0))]:=by kernel_rfl
theorem f7k:TY Tryz.prog 117 Tryz.t117 1 8 false:=⟨by kernel_rfl,rfl,by kernel_rfl,by kernel_rfl,by kernel_rfl⟩
theorem f7l:zeroCells Tryz.prog 117=some [.d (.v (.pointer none))]:=by kernel_rfl
theorem f7m:TY Tryz.prog 119 Tryz.t119 3 48 true:=⟨by kernel_rfl,rfl,by kernel_rfl,by kernel_rfl,by kernel_rfl⟩
theorem f7n:zeroCells Tryz.prog 119=some [.d (.v (.string .empty)),.d (.v (.slice none 0 0)),.d (.v (.bool false))]:=by kernel_rfl
theorem f7o:TY Tryz.prog 121 Tryz.t121 1 8 false:=⟨by kernel_rfl,rfl,by kernel_rfl,by kernel_rfl,by kernel_rfl⟩
theorem f7p:zeroCells Tryz.prog 121=some [.d (.v (.pointer none))]:=by kernel_rfl
theorem f7q:TY Tryz.prog 123 Tryz.t123 4 56 true:=⟨by kernel_rfl,rfl,by kernel_rfl,by kernel_rfl,by kernel_rfl⟩
theorem f7r:zeroCells Tryz.prog 123=some [.d (.v (.string .empty)),.d (.v (.int .i64 0)),.d (.v (.bool false)),.d (.v (.slice none 0 0))]:=by kernel_rfl
theorem f7s:TY Tryz.prog 126 Tryz.t126 3 48 true:=⟨by kernel_rfl,rfl,by kernel_rfl,by kernel_rfl,by kernel_rfl⟩
theorem f7t:zeroCells Tryz.prog 126=some [.d (.v (.int .i64 0)),.d (.v (.string .empty)),.d (.v (.slice none 0 0))]:=by kernel_rfl
theorem BE4(x y:Operand)(a b:Bool):i8 Tryz.prog (do eqGuard .eql 4 x y (.bool a) (.bool b);binOp .eql 4 (.bool a) (.bool b))=some (.one (.c (.d (.v (.bool (a==b)))))):=d8e 4 x y Tryz.underlying4 a b
theorem BN4(x y:Operand)(a b:Bool):i8 Tryz.prog (do eqGuard .neq 4 x y (.bool a) (.bool b);binOp .neq 4 (.bool a) (.bool b))=some (.one (.c (.d (.v (.bool (!(a==b))))))):=d8f 4 x y Tryz.underlying4 a b
theorem LN9(s:ByteArray):i8 Tryz.prog (Builtin.len_ #[9] 0 #[.string s])=some (.one (.c (.d (.v (.int .i64 s.size))))):=e2r rfl Tryz.underlying9 s
theorem v6(l:List UInt8)(k:IntKind)(i:Int)(h:0<=i∧i.toNat<l.length):i8 Tryz.prog (Instr.index 9 (.string (B l)) (.int k i))=some (.one (.c (.d (.v (.int .u8 (l[i.toNat]'h.2).toNat))))):=f7d Tryz.underlying9 l k i h
theorem f3t(k:IntKind)(n:Int):i8 Tryz.prog (convert 5 3 (.int k n))=some (.one (.c (.d (.v (.int .i64 ((Go.IntKind.i64).wrap n)))))):=a3z Tryz.underlying5 Tryz.underlying3 k n
attribute [go_sem] f3k f3l f3m f3n f3o f3p f3q f3r f3s e8q e8r e8s e3h W42 W55 W58 W61 W67 W78 W80 W81 W82 T0 W86 W88 L8 W90 W91 W92 T2 W94 W95 W96 W97 W98 W99 O1 a0y R6 c2z c3a a7c a1x b5m c3b e8t c3c f7e d9d Y3 Tryz.underlying3 Z3 Y4 Tryz.underlying4 Z4 Y5 Tryz.underlying5 Z5 Y9 Tryz.underlying9 Z9 Y22 Tryz.underlying22 E22 Z22 Y23 Tryz.underlying23 E23 Z23 Y25 Tryz.underlying25 Z25 Y26 Tryz.underlying26 E26 Z26 Y27 Tryz.underlying27 E27 Z27 Y29 Tryz.underlying29 Z29 Y31 Tryz.underlying31 Z31 Y62 Tryz.underlying62 Z62 Y67 Tryz.underlying67 Z67 Y69 Tryz.underlying69 Z69 Y85 Tryz.underlying85 E85 Z85 Y93 Tryz.underlying93 E93 Z93 f7f Tryz.underlying105 f7g f7h f7i Tryz.underlying107 f7j f7k Tryz.underlying117 f7l f7m Tryz.underlying119 f7n f7o Tryz.underlying121 f7p f7q Tryz.underlying123 f7r f7s Tryz.underlying126 f7t
attribute [go_sem ↓] BE4 BN4 LN9 f3t
end Go.Vsi
namespace Go.Vsi
open Go.Proofs
def T1:C0:=mkT [(4,9,[0,2,4,5,7,9,10,11]),(4,14,[0,2,4,5,7,9,10,12]),(9,5,[0,2,4,5,6,7]),(9,10,[0,2,4,5,6,8]),(11,5,[0,2,4,5,6,7]),(11,12,[0,2,4,5,6,9]),(13,7,[1,8,9]),(13,12,[1,8,10]),(14,5,[2,4,5,16,17]),(14,11,[2,4,5,30,31]),(16,5,[2,4,5,16,17]),(16,13,[2,4,5,35,36]),(17,4,[0,5,12,13]),(19,2,[1,8,9,10]),(19,8,[1,19,20,21]),(22,4,[0,1,5]),(25,2,[0,1,5]),(28,2,[0,1,5]),(29,5,[1,4,5]),(29,10,[1,4,6]),(31,5,[1,4,5]),(31,10,[1,4,6]),(32,6,[0,1,7,8,9]),(33,2,[1,3]),(33,7,[1,4]),(35,2,[0,3]),(39,2,[1,8,9,10]),(39,8,[1,19,20,21]),(41,2,[1,8,9,10]),(41,8,[1,43,44,45]),(42,2,[0,5,6]),(43,4,[0,1,5]),(44,4,[0,1,5]),(45,4,[0,1,5]),(46,2,[0,1,5]),(47,2,[0,1,5]),(48,2,[0,1,5]),(49,4,[0,3]),(50,2,[0,1,5]),(51,2,[0,1,5]),(52,2,[0,1,5]),(53,2,[1,3]),(54,2,[1,3]),(54,8,[1,5]),(56,2,[0,3]),(57,5,[0,1,7,8]),(59,5,[2,3,4,7,8,9]),(65,3,[1,2,3,7,20,21]),(65,9,[2,3,7,9]),(65,25,[2,3,7,9,13,14,15]),(68,8,[7,8])] [(4,9,[0,2,4,5,7,9]),(4,14,[0,2,4,5,7,9]),(9,5,[0,2,4,5]),(9,10,[0,2,4,5]),(11,5,[0,2,4,5]),(11,12,[0,2,4,5]),(13,7,[1,8]),(13,12,[8]),(14,5,[2,4,5]),(14,11,[2,4,5]),(16,5,[2,4,5]),(16,13,[2,4,5]),(17,4,[5]),(19,2,[1,2]),(19,8,[1,2]),(22,4,[4]),(25,2,[1]),(28,2,[1,4]),(29,5,[1,4]),(29,10,[1,4]),(31,5,[1,4]),(31,10,[1,4]),(32,6,[4,5,6]),(33,2,[1,2]),(33,7,[1,2]),(35,2,[0,3]),(39,2,[1,2]),(39,8,[1,2]),(41,2,[1,2]),(41,8,[1,2]),(42,2,[0,2]),(43,4,[4]),(44,4,[4]),(45,4,[4]),(46,2,[1]),(47,2,[1]),(48,2,[1]),(49,4,[3]),(50,2,[1,4]),(51,2,[1,4]),(52,2,[1,4]),(53,2,[1,2]),(54,2,[1,2]),(54,8,[1,2]),(56,2,[0,2]),(57,5,[4,5,6]),(59,5,[2,4,6,7]),(65,3,[1,2,3,7]),(65,9,[2,6,7]),(65,25,[2,3,6,7,9]),(68,8,[7])] [] [] [6,8,13,19,20,21,22,26,27,28,29,31,33,39,41,43,44,45,50,51,52,53,54,59,65,70,74] [5,14,16,17,68] []
theorem e8u:b2u T1.lend=false:=by kernel_rfl
theorem f7u:T1.keep 4 9=[0,2,4,5,7,9,10,11]∧T1.out 4 9=[0,2,4,5,7,9]:=⟨by kernel_rfl,by kernel_rfl⟩
theorem f3u:T1.keep 4 14=[0,2,4,5,7,9,10,12]∧T1.out 4 14=[0,2,4,5,7,9]:=⟨by kernel_rfl,by kernel_rfl⟩
theorem f7v:T1.keep 9 5=[0,2,4,5,6,7]∧T1.out 9 5=[0,2,4,5]:=⟨by kernel_rfl,by kernel_rfl⟩
theorem f3v:T1.keep 9 10=[0,2,4,5,6,8]∧T1.out 9 10=[0,2,4,5]:=⟨by kernel_rfl,by kernel_rfl⟩
theorem f3w:T1.keep 11 5=[0,2,4,5,6,7]∧T1.out 11 5=[0,2,4,5]:=⟨by kernel_rfl,by kernel_rfl⟩
theorem e8v:T1.keep 11 12=[0,2,4,5,6,9]∧T1.out 11 12=[0,2,4,5]:=⟨by kernel_rfl,by kernel_rfl⟩
theorem f3x:T1.keep 13 7=[1,8,9]∧T1.out 13 7=[1,8]:=⟨by kernel_rfl,by kernel_rfl⟩
theorem e8w:T1.keep 13 12=[1,8,10]∧T1.out 13 12=[8]:=⟨by kernel_rfl,by kernel_rfl⟩
theorem f3y:T1.keep 14 5=[2,4,5,16,17]∧T1.out 14 5=[2,4,5]:=⟨by kernel_rfl,by kernel_rfl⟩
theorem e8x:T1.keep 14 11=[2,4,5,30,31]∧T1.out 14 11=[2,4,5]:=⟨by kernel_rfl,by kernel_rfl⟩
theorem f3z:T1.keep 16 5=[2,4,5,16,17]∧T1.out 16 5=[2,4,5]:=⟨by kernel_rfl,by kernel_rfl⟩
theorem e8y:T1.keep 16 13=[2,4,5,35,36]∧T1.out 16 13=[2,4,5]:=⟨by kernel_rfl,by kernel_rfl⟩
theorem f4a:T1.keep 17 4=[0,5,12,13]∧T1.out 17 4=[5]:=⟨by kernel_rfl,by kernel_rfl⟩
theorem f4b:T1.keep 19 2=[1,8,9,10]∧T1.out 19 2=[1,2]:=⟨by kernel_rfl,by kernel_rfl⟩
theorem f4c:T1.keep 19 8=[1,19,20,21]∧T1.out 19 8=[1,2]:=⟨by kernel_rfl,by kernel_rfl⟩
theorem f4d:T1.keep 22 4=[0,1,5]∧T1.out 22 4=[4]:=⟨by kernel_rfl,by kernel_rfl⟩
theorem f4e:T1.keep 25 2=[0,1,5]∧T1.out 25 2=[1]:=⟨by kernel_rfl,by kernel_rfl⟩
theorem f4f:T1.keep 28 2=[0,1,5]∧T1.out 28 2=[1,4]:=⟨by kernel_rfl,by kernel_rfl⟩
theorem f4g:T1.keep 29 5=[1,4,5]∧T1.out 29 5=[1,4]:=⟨by kernel_rfl,by kernel_rfl⟩
theorem e8z:T1.keep 29 10=[1,4,6]∧T1.out 29 10=[1,4]:=⟨by kernel_rfl,by kernel_rfl⟩
theorem f4h:T1.keep 31 5=[1,4,5]∧T1.out 31 5=[1,4]:=⟨by kernel_rfl,by kernel_rfl⟩
theorem e9a:T1.keep 31 10=[1,4,6]∧T1.out 31 10=[1,4]:=⟨by kernel_rfl,by kernel_rfl⟩
theorem f4i:T1.keep 32 6=[0,1,7,8,9]∧T1.out 32 6=[4,5,6]:=⟨by kernel_rfl,by kernel_rfl⟩
theorem f4j:T1.keep 33 2=[1,3]∧T1.out 33 2=[1,2]:=⟨by kernel_rfl,by kernel_rfl⟩
theorem f4k:T1.keep 33 7=[1,4]∧T1.out 33 7=[1,2]:=⟨by kernel_rfl,by kernel_rfl⟩
theorem f4l:T1.keep 35 2=[0,3]∧T1.out 35 2=[0,3]:=⟨by kernel_rfl,by kernel_rfl⟩
theorem f4m:T1.keep 39 2=[1,8,9,10]∧T1.out 39 2=[1,2]:=⟨by kernel_rfl,by kernel_rfl⟩
theorem f4n:T1.keep 39 8=[1,19,20,21]∧T1.out 39 8=[1,2]:=⟨by kernel_rfl,by kernel_rfl⟩
theorem f4o:T1.keep 41 2=[1,8,9,10]∧T1.out 41 2=[1,2]:=⟨by kernel_rfl,by kernel_rfl⟩
theorem f4p:T1.keep 41 8=[1,43,44,45]∧T1.out 41 8=[1,2]:=⟨by kernel_rfl,by kernel_rfl⟩
theorem f4q:T1.keep 42 2=[0,5,6]∧T1.out 42 2=[0,2]:=⟨by kernel_rfl,by kernel_rfl⟩
theorem f4r:T1.keep 43 4=[0,1,5]∧T1.out 43 4=[4]:=⟨by kernel_rfl,by kernel_rfl⟩
theorem f4s:T1.keep 44 4=[0,1,5]∧T1.out 44 4=[4]:=⟨by kernel_rfl,by kernel_rfl⟩
theorem f4t:T1.keep 45 4=[0,1,5]∧T1.out 45 4=[4]:=⟨by kernel_rfl,by kernel_rfl⟩
theorem f4u:T1.keep 46 2=[0,1,5]∧T1.out 46 2=[1]:=⟨by kernel_rfl,by kernel_rfl⟩
theorem f4v:T1.keep 47 2=[0,1,5]∧T1.out 47 2=[1]:=⟨by kernel_rfl,by kernel_rfl⟩
theorem f4w:T1.keep 48 2=[0,1,5]∧T1.out 48 2=[1]:=⟨by kernel_rfl,by kernel_rfl⟩
theorem f4x:T1.keep 49 4=[0,3]∧T1.out 49 4=[3]:=⟨by kernel_rfl,by kernel_rfl⟩
theorem f4y:T1.keep 50 2=[0,1,5]∧T1.out 50 2=[1,4]:=⟨by kernel_rfl,by kernel_rfl⟩
theorem f4z:T1.keep 51 2=[0,1,5]∧T1.out 51 2=[1,4]:=⟨by kernel_rfl,by kernel_rfl⟩
theorem f5a:T1.keep 52 2=[0,1,5]∧T1.out 52 2=[1,4]:=⟨by kernel_rfl,by kernel_rfl⟩
theorem f5b:T1.keep 53 2=[1,3]∧T1.out 53 2=[1,2]:=⟨by kernel_rfl,by kernel_rfl⟩
theorem f5c:T1.keep 54 2=[1,3]∧T1.out 54 2=[1,2]:=⟨by kernel_rfl,by kernel_rfl⟩
theorem f5d:T1.keep 54 8=[1,5]∧T1.out 54 8=[1,2]:=⟨by kernel_rfl,by kernel_rfl⟩
theorem f5e:T1.keep 56 2=[0,3]∧T1.out 56 2=[0,2]:=⟨by kernel_rfl,by kernel_rfl⟩
theorem f5f:T1.keep 57 5=[0,1,7,8]∧T1.out 57 5=[4,5,6]:=⟨by kernel_rfl,by kernel_rfl⟩
theorem f5g:T1.keep 59 5=[2,3,4,7,8,9]∧T1.out 59 5=[2,4,6,7]:=⟨by kernel_rfl,by kernel_rfl⟩
theorem f5h:T1.keep 65 3=[1,2,3,7,20,21]∧T1.out 65 3=[1,2,3,7]:=⟨by kernel_rfl,by kernel_rfl⟩
theorem f5i:T1.keep 65 9=[2,3,7,9]∧T1.out 65 9=[2,6,7]:=⟨by kernel_rfl,by kernel_rfl⟩
theorem e9b:T1.keep 65 25=[2,3,7,9,13,14,15]∧T1.out 65 25=[2,3,6,7,9]:=⟨by kernel_rfl,by kernel_rfl⟩
theorem f5j:T1.keep 68 8=[7,8]∧T1.out 68 8=[7]:=⟨by kernel_rfl,by kernel_rfl⟩
theorem V3:m8 Tryz.prog T1 3 true false:=h9 (by kernel_rfl)
theorem V4:m8 Tryz.prog T1 4 true false:=h9 (by kernel_rfl)
theorem V5:m8 Tryz.prog T1 5 false false:=h9 (by kernel_rfl)
theorem V6:m8 Tryz.prog T1 6 true true:=h9 (by kernel_rfl)
theorem V7:m8 Tryz.prog T1 7 true false:=h9 (by kernel_rfl)
theorem V8:m8 Tryz.prog T1 8 true true:=h9 (by kernel_rfl)
theorem V9:m8 Tryz.prog T1 9 true false:=h9 (by kernel_rfl)
theorem V10:m8 Tryz.prog T1 10 true false:=h9 (by kernel_rfl)
theorem I3:m8 Tryz.prog T1 11 true false:=h9 (by kernel_rfl)
theorem V12:m8 Tryz.prog T1 12 true false:=h9 (by kernel_rfl)
theorem V13:m8 Tryz.prog T1 13 true true:=h9 (by kernel_rfl)
theorem V14:m8 Tryz.prog T1 14 false false:=h9 (by kernel_rfl)
theorem V15:m8 Tryz.prog T1 15 true false:=h9 (by kernel_rfl)
theorem V16:m8 Tryz.prog T1 16 false false:=h9 (by kernel_rfl)
theorem V17:m8 Tryz.prog T1 17 false false:=h9 (by kernel_rfl)
theorem V18:m8 Tryz.prog T1 18 true false:=h9 (by kernel_rfl)
theorem V19:m8 Tryz.prog T1 19 true true:=h9 (by kernel_rfl)
theorem V20:m8 Tryz.prog T1 20 true true:=h9 (by kernel_rfl)
theorem V21:m8 Tryz.prog T1 21 true true:=h9 (by kernel_rfl)
theorem V22:m8 Tryz.prog T1 22 true true:=h9 (by kernel_rfl)
theorem V23:m8 Tryz.prog T1 23 true false:=h9 (by kernel_rfl)
theorem V24:m8 Tryz.prog T1 24 true false:=h9 (by kernel_rfl)
theorem V25:m8 Tryz.prog T1 25 true false:=h9 (by kernel_rfl)
theorem V26:m8 Tryz.prog T1 26 true true:=h9 (by kernel_rfl)
theorem V27:m8 Tryz.prog T1 27 true true:=h9 (by kernel_rfl)
theorem V28:m8 Tryz.prog T1 28 true true:=h9 (by kernel_rfl)
theorem V29:m8 Tryz.prog T1 29 true true:=h9 (by kernel_rfl)
theorem V30:m8 Tryz.prog T1 30 true false:=h9 (by kernel_rfl)
theorem V31:m8 Tryz.prog T1 31 true true:=h9 (by kernel_rfl)
theorem T7:m8 Tryz.prog T1 32 true false:=h9 (by kernel_rfl)
theorem V33:m8 Tryz.prog T1 33 true true:=h9 (by kernel_rfl)
theorem V34:m8 Tryz.prog T1 34 true false:=h9 (by kernel_rfl)
theorem V35:m8 Tryz.prog T1 35 true false:=h9 (by kernel_rfl)
theorem V36:m8 Tryz.prog T1 36 true false:=h9 (by kernel_rfl)
theorem V37:m8 Tryz.prog T1 37 true false:=h9 (by kernel_rfl)
theorem V38:m8 Tryz.prog T1 38 true false:=h9 (by kernel_rfl)
theorem V39:m8 Tryz.prog T1 39 true true:=h9 (by kernel_rfl)
theorem V40:m8 Tryz.prog T1 40 true false:=h9 (by kernel_rfl)
theorem V41:m8 Tryz.prog T1 41 true true:=h9 (by kernel_rfl)
theorem V42:m8 Tryz.prog T1 42 true false:=h9 (by kernel_rfl)
theorem V43:m8 Tryz.prog T1 43 true true:=h9 (by kernel_rfl)
theorem V44:m8 Tryz.prog T1 44 true true:=h9 (by kernel_rfl)
theorem V45:m8 Tryz.prog T1 45 true true:=h9 (by kernel_rfl)
theorem V46:m8 Tryz.prog T1 46 true false:=h9 (by kernel_rfl)
theorem V47:m8 Tryz.prog T1 47 true false:=h9 (by kernel_rfl)
theorem V48:m8 Tryz.prog T1 48 true false:=h9 (by kernel_rfl)
theorem V49:m8 Tryz.prog T1 49 true false:=h9 (by kernel_rfl)
theorem V50:m8 Tryz.prog T1 50 true true:=h9 (by kernel_rfl)
theorem V51:m8 Tryz.prog T1 51 true true:=h9 (by kernel_rfl)
theorem V52:m8 Tryz.prog T1 52 true true:=h9 (by kernel_rfl)
theorem V53:m8 Tryz.prog T1 53 true true:=h9 (by kernel_rfl)
theorem V54:m8 Tryz.prog T1 54 true true:=h9 (by kernel_rfl)
theorem V55:m8 Tryz.prog T1 55 true false:=h9 (by kernel_rfl)
theorem V56:m8 Tryz.prog T1 56 true false:=h9 (by kernel_rfl)
theorem W6:m8 Tryz.prog T1 57 true false:=h9 (by kernel_rfl)
theorem V58:m8 Tryz.prog T1 58 true false:=h9 (by kernel_rfl)
theorem V59:m8 Tryz.prog T1 59 true true:=h9 (by kernel_rfl)
theorem V60:m8 Tryz.prog T1 60 true false:=h9 (by kernel_rfl)
theorem V62:m8 Tryz.prog T1 62 true false:=h9 (by kernel_rfl)
theorem V63:m8 Tryz.prog T1 63 true false:=h9 (by kernel_rfl)
theorem V64:m8 Tryz.prog T1 64 true false:=h9 (by kernel_rfl)
theorem Y2:m8 Tryz.prog T1 65 true true:=h9 (by kernel_rfl)
theorem V66:m8 Tryz.prog T1 66 true false:=h9 (by kernel_rfl)
theorem V67:m8 Tryz.prog T1 67 true false:=h9 (by kernel_rfl)
theorem V68:m8 Tryz.prog T1 68 false false:=h9 (by kernel_rfl)
theorem V69:m8 Tryz.prog T1 69 true false:=h9 (by kernel_rfl)
theorem V70:m8 Tryz.prog T1 70 true true:=h9 (by kernel_rfl)
theorem V71:m8 Tryz.prog T1 71 true false:=h9 (by kernel_rfl)
theorem V72:m8 Tryz.prog T1 72 true false:=h9 (by kernel_rfl)
theorem V73:m8 Tryz.prog T1 73 true false:=h9 (by kernel_rfl)
theorem V74:m8 Tryz.prog T1 74 true true:=h9 (by kernel_rfl)
theorem W7:m8 Tryz.prog T1 75 true false:=h9 (by kernel_rfl)
theorem V76:m8 Tryz.prog T1 76 true false:=h9 (by kernel_rfl)
theorem V77:m8 Tryz.prog T1 77 true false:=h9 (by kernel_rfl)
theorem V78:m8 Tryz.prog T1 78 true false:=h9 (by kernel_rfl)
theorem V79:m8 Tryz.prog T1 79 true false:=h9 (by kernel_rfl)
theorem V80:m8 Tryz.prog T1 80 true false:=h9 (by kernel_rfl)
theorem V81:m8 Tryz.prog T1 81 true false:=h9 (by kernel_rfl)
theorem V82:m8 Tryz.prog T1 82 true false:=h9 (by kernel_rfl)
theorem V84:m8 Tryz.prog T1 84 true false:=h9 (by kernel_rfl)
theorem Y37:TY Tryz.prog 37 Tryz.t37 1 8 false:=⟨by kernel_rfl,rfl,by kernel_rfl,by kernel_rfl,by kernel_rfl⟩
theorem Z37:zeroCells Tryz.prog 37=some [.d (.v (.pointer none))]:=by kernel_rfl
theorem Y39:TY Tryz.prog 39 Tryz.t39 3 32 true:=⟨by kernel_rfl,rfl,by kernel_rfl,by kernel_rfl,by kernel_rfl⟩
theorem Z39:zeroCells Tryz.prog 39=some [.d (.v (.string .empty)),.d (.v (.int .i64 0)),.d (.v (.bool false))]:=by kernel_rfl
theorem Y48:TY Tryz.prog 48 Tryz.t48 1 8 false:=⟨by kernel_rfl,rfl,by kernel_rfl,by kernel_rfl,by kernel_rfl⟩
theorem Z48:zeroCells Tryz.prog 48=some [.d (.v (.pointer none))]:=by kernel_rfl
theorem Y50:TY Tryz.prog 50 Tryz.t50 3 32 true:=⟨by kernel_rfl,rfl,by kernel_rfl,by kernel_rfl,by kernel_rfl⟩
theorem Z50:zeroCells Tryz.prog 50=some [.d (.v (.string .empty)),.d (.v (.int .i64 0)),.d (.v (.bool false))]:=by kernel_rfl
theorem f7w:TY Tryz.prog 101 Tryz.t101 1 8 false:=⟨by kernel_rfl,rfl,by kernel_rfl,by kernel_rfl,by kernel_rfl⟩
theorem f7x:zeroCells Tryz.prog 101=some [.d (.v (.int .u64 0))]:=by kernel_rfl
theorem f7y:TY Tryz.prog 111 Tryz.t111 1 4 false:=⟨by kernel_rfl,rfl,by kernel_rfl,by kernel_rfl,by kernel_rfl⟩
theorem f7z:zeroCells Tryz.prog 111=some [.d (.v (.int .u32 0))]:=by kernel_rfl
theorem f8a:TY Tryz.prog 114 Tryz.t114 1 8 false:=⟨by kernel_rfl,rfl,by kernel_rfl,by kernel_rfl,by kernel_rfl⟩
theorem f8b:zeroCells Tryz.prog 114=some [.d (.v (.int .u64 0))]:=by kernel_rfl
theorem f5k(k:IntKind)(n:Int):i8 Tryz.prog (convert 3 5 (.int k n))=some (.one (.c (.d (.v (.int .u8 ((Go.IntKind.u8).wrap n)))))):=a3z Tryz.underlying3 Tryz.underlying5 k n
theorem e3i(k:IntKind)(n:Int):i8 Tryz.prog (convert 3 101 (.int k n))=some (.one (.c (.d (.v (.int .u64 ((Go.IntKind.u64).wrap n)))))):=a3z Tryz.underlying3 Tryz.underlying101 k n
theorem e3j(k:IntKind)(n:Int):i8 Tryz.prog (convert 101 3 (.int k n))=some (.one (.c (.d (.v (.int .i64 ((Go.IntKind.i64).wrap n)))))):=a3z Tryz.underlying101 Tryz.underlying3 k n
theorem d4g(k:IntKind)(n:Int):i8 Tryz.prog (convert 101 111 (.int k n))=some (.one (.c (.d (.v (.int .u32 ((Go.IntKind.u32).wrap n)))))):=a3z Tryz.underlying101 Tryz.underlying111 k n
theorem d4h(k:IntKind)(n:Int):i8 Tryz.prog (convert 111 101 (.int k n))=some (.one (.c (.d (.v (.int .u64 ((Go.IntKind.u64).wrap n)))))):=a3z Tryz.underlying111 Tryz.underlying101 k n
attribute [go_sem] e8u f7u f3u f7v f3v f3w e8v f3x e8w f3y e8x f3z e8y f4a f4b f4c f4d f4e f4f f4g e8z f4h e9a f4i f4j f4k f4l f4m f4n f4o f4p f4q f4r f4s f4t f4u f4v f4w f4x f4y f4z f5a f5b f5c f5d f5e f5f f5g f5h f5i e9b f5j V3 V4 V5 V6 V7 V8 V9 V10 I3 V12 V13 V14 V15 V16 V17 V18 V19 V20 V21 V22 V23 V24 V25 V26 V27 V28 V29 V30 V31 T7 V33 V34 V35 V36 V37 V38 V39 V40 V41 V42 V43 V44 V45 V46 V47 V48 V49 V50 V51 V52 V53 V54 V55 V56 W6 V58 V59 V60 V62 V63 V64 Y2 V66 V67 V68 V69 V70 V71 V72 V73 V74 W7 V76 V77 V78 V79 V80 V81 V82 V84 Y37 Tryz.underlying37 Z37 Y39 Tryz.underlying39 Z39 Y48 Tryz.underlying48 Z48 Y50 Tryz.underlying50 Z50 f7w Tryz.underlying101 f7x f7y Tryz.underlying111 f7z f8a Tryz.underlying114 f8b
attribute [go_sem ↓] f5k e3i e3j d4g d4h
end Go.Vsi
namespace Go.Vsi
open Go.Proofs
set_option maxRecDepth 100000
structure i6 where
 Op:Int
 Arg:Int
def i6.enc(x:i6):_root_.List D:=[.v (.int .i64 x.Op),.v (.int .i64 x.Arg)]
def i6.ok(x:i6):Prop:=(Lit.int .i64 x.Op).wf=true∧(Lit.int .i64 x.Arg).wf=true
structure n8 where
 Texts:List (List UInt8)
 List:List i6
 Begin:Int
 Line:Int
 End:Int
def n8.enc(x:n8):_root_.List D:=[.sl 1 (x.Texts.map fun y=>[.v (.string (B y))]),.sl 2 (x.List.map fun y=>i6.enc y),.v (.int .i64 x.Begin),.v (.int .i64 x.Line),.v (.int .i64 x.End)]
def n8.ok(x:n8):Prop:=(x.Texts.length<=maxLen∧ ∀y∈x.Texts,y.length<=maxLen)∧(x.List.length<=maxLen∧ ∀y∈x.List,i6.ok y)∧(Lit.int .i64 x.Begin).wf=true∧(Lit.int .i64 x.Line).wf=true∧(Lit.int .i64 x.End).wf=true
structure v9 where
 Name:List UInt8
 Val:List UInt8
def v9.enc(x:v9):_root_.List D:=[.v (.string (B x.Name)),.v (.string (B x.Val))]
def v9.ok(x:v9):Prop:=x.Name.length<=maxLen∧x.Val.length<=maxLen
structure q9 where
 Name:List UInt8
 Key:List UInt8
 Val:List UInt8
def q9.enc(x:q9):_root_.List D:=[.v (.string (B x.Name)),.v (.string (B x.Key)),.v (.string (B x.Val))]
def q9.ok(x:q9):Prop:=x.Name.length<=maxLen∧x.Key.length<=maxLen∧x.Val.length<=maxLen
structure s8 where
 Vars:List v9
 Cells:List q9
 Out:List UInt8
def s8.enc(x:s8):_root_.List D:=[.sl 2 (x.Vars.map fun y=>v9.enc y),.sl 3 (x.Cells.map fun y=>q9.enc y),.v (.string (B x.Out))]
def s8.ok(x:s8):Prop:=(x.Vars.length<=maxLen∧ ∀y∈x.Vars,v9.ok y)∧(x.Cells.length<=maxLen∧ ∀y∈x.Cells,q9.ok y)∧x.Out.length<=maxLen
structure C6 where
 Code:n8
 Begin:s8
 Names:List (List UInt8)
 Lines:List (List UInt8)
def C6.enc(x:C6):_root_.List D:=[.sl 1 (x.Code.Texts.map fun y=>[.v (.string (B y))]),.sl 2 (x.Code.List.map fun y=>i6.enc y),.v (.int .i64 x.Code.Begin),.v (.int .i64 x.Code.Line),.v (.int .i64 x.Code.End),.sl 2 (x.Begin.Vars.map fun y=>v9.enc y),.sl 3 (x.Begin.Cells.map fun y=>q9.enc y),.v (.string (B x.Begin.Out)),.sl 1 (x.Names.map fun y=>[.v (.string (B y))]),.sl 1 (x.Lines.map fun y=>[.v (.string (B y))])]
def C6.ok(x:C6):Prop:=n8.ok x.Code∧s8.ok x.Begin∧(x.Names.length<=maxLen∧ ∀y∈x.Names,y.length<=maxLen)∧(x.Lines.length<=maxLen∧ ∀y∈x.Lines,y.length<=maxLen)
structure a7d where
 Op:Int
 Text:List UInt8
 Kids:List Int
def a7d.enc(x:a7d):_root_.List D:=[.v (.int .i64 x.Op),.v (.string (B x.Text)),.sl 1 (x.Kids.map fun y=>[.v (.int .i64 y)])]
def a7d.ok(x:a7d):Prop:=(Lit.int .i64 x.Op).wf=true∧x.Text.length<=maxLen∧(x.Kids.length<=maxLen∧ ∀y∈x.Kids,(Lit.int .i64 y).wf=true)
structure b1a where
 Pieces:List a7d
def b1a.enc(x:b1a):_root_.List D:=[.sl 3 (x.Pieces.map fun y=>a7d.enc y)]
def b1a.ok(x:b1a):Prop:=(x.Pieces.length<=maxLen∧ ∀y∈x.Pieces,a7d.ok y)
theorem wt9{k:Nat}{ds:List D}(h:WT Tryz.prog k 9 ds): ∃x:List UInt8,ds=[.v (.string (B x))]∧x.length<=maxLen:=by
 cases k with
 |zero=>exact h.elim
 |succ k=>
 simp only[WT,Tryz.underlying9]at h
 obtain⟨s,rfl,h⟩:=h
 exact⟨s.data.toList,rfl,h⟩
end Go.Vsi
