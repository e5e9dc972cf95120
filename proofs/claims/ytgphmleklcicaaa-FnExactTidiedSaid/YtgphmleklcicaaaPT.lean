/- The seat's table of hints for the abstract interpreter, and closed facts of its functions and types. Printed by our own program (wip/tool/tab6.py). -/
import Derived.Test.YtgphmleklcicaaaProg
import Derived.Test.YtgphmleklcicaaaV6
import Derived.KernelRfl
namespace Go.Vsi
open Go.Proofs
def T : Tab := mkT [(11, 5, [0, 1, 5]), (14, 4, [1, 3]), (14, 9, [1, 4]), (15, 3, [1, 3, 4]), (15, 9, [1, 3, 5]), (15, 12, [1, 3, 5, 6]), (18, 2, [1, 8, 9, 10]), (18, 8, [1, 39, 40, 41]), (20, 3, [1, 2, 5, 16, 17, 18]), (20, 11, [2, 5, 8]), (20, 14, [2, 5, 8, 55, 56, 57]), (28, 6, [1, 2, 5, 8]), (34, 2, [1, 7, 8, 9]), (36, 3, [2, 3, 5, 6, 17, 18, 19]), (48, 2, [0, 1, 2, 9, 10]), (56, 2, [0, 3]), (57, 2, [0, 1, 2, 7]), (58, 3, [0, 3, 4]), (58, 8, [0, 5]), (61, 2, [0, 5, 6]), (63, 2, [0, 3]), (64, 2, [1, 6, 7, 8]), (67, 2, [0, 3]), (70, 4, [0, 3]), (78, 4, [0, 3]), (81, 2, [0, 1, 7, 8]), (83, 2, [0, 3]), (88, 2, [0, 3]), (96, 7, [0, 3, 4]), (97, 3, [0, 3, 4]), (100, 15, [0, 1, 5, 6, 7, 8, 9, 10])] [(11, 5, [1, 4]), (14, 4, [1, 2]), (14, 9, [2]), (15, 3, [1, 3]), (15, 9, [3]), (15, 12, [1, 3, 5]), (18, 2, [1, 2]), (18, 8, [1, 2]), (20, 3, [2, 5]), (20, 11, [5]), (20, 14, [2, 5, 8]), (28, 6, [4]), (34, 2, [4]), (36, 3, [3, 4, 5, 6]), (48, 2, [0, 1, 2, 6]), (56, 2, [0, 2]), (57, 2, [0, 1, 6]), (58, 3, [0, 2]), (58, 8, [0, 2]), (61, 2, [0, 2]), (63, 2, [3]), (64, 2, [1, 2]), (67, 2, [3]), (70, 4, [3]), (78, 4, [3]), (81, 2, [4]), (83, 2, [2, 3]), (88, 2, [3]), (96, 7, [0, 3, 4]), (97, 3, [2]), (100, 15, [4])] [] [] [] [] []
theorem nestT : nestB T.lend = false := by kernel_rfl
theorem K11_5 : T.keep 11 5 = [0, 1, 5] ∧ T.out 11 5 = [1, 4] := ⟨by kernel_rfl, by kernel_rfl⟩
theorem K14_4 : T.keep 14 4 = [1, 3] ∧ T.out 14 4 = [1, 2] := ⟨by kernel_rfl, by kernel_rfl⟩
theorem K14_9 : T.keep 14 9 = [1, 4] ∧ T.out 14 9 = [2] := ⟨by kernel_rfl, by kernel_rfl⟩
theorem K15_3 : T.keep 15 3 = [1, 3, 4] ∧ T.out 15 3 = [1, 3] := ⟨by kernel_rfl, by kernel_rfl⟩
theorem K15_9 : T.keep 15 9 = [1, 3, 5] ∧ T.out 15 9 = [3] := ⟨by kernel_rfl, by kernel_rfl⟩
theorem K15_12 : T.keep 15 12 = [1, 3, 5, 6] ∧ T.out 15 12 = [1, 3, 5] := ⟨by kernel_rfl, by kernel_rfl⟩
theorem K18_2 : T.keep 18 2 = [1, 8, 9, 10] ∧ T.out 18 2 = [1, 2] := ⟨by kernel_rfl, by kernel_rfl⟩
theorem K18_8 : T.keep 18 8 = [1, 39, 40, 41] ∧ T.out 18 8 = [1, 2] := ⟨by kernel_rfl, by kernel_rfl⟩
theorem K20_3 : T.keep 20 3 = [1, 2, 5, 16, 17, 18] ∧ T.out 20 3 = [2, 5] := ⟨by kernel_rfl, by kernel_rfl⟩
theorem K20_11 : T.keep 20 11 = [2, 5, 8] ∧ T.out 20 11 = [5] := ⟨by kernel_rfl, by kernel_rfl⟩
theorem K20_14 : T.keep 20 14 = [2, 5, 8, 55, 56, 57] ∧ T.out 20 14 = [2, 5, 8] := ⟨by kernel_rfl, by kernel_rfl⟩
theorem K28_6 : T.keep 28 6 = [1, 2, 5, 8] ∧ T.out 28 6 = [4] := ⟨by kernel_rfl, by kernel_rfl⟩
theorem K34_2 : T.keep 34 2 = [1, 7, 8, 9] ∧ T.out 34 2 = [4] := ⟨by kernel_rfl, by kernel_rfl⟩
theorem K36_3 : T.keep 36 3 = [2, 3, 5, 6, 17, 18, 19] ∧ T.out 36 3 = [3, 4, 5, 6] := ⟨by kernel_rfl, by kernel_rfl⟩
theorem K48_2 : T.keep 48 2 = [0, 1, 2, 9, 10] ∧ T.out 48 2 = [0, 1, 2, 6] := ⟨by kernel_rfl, by kernel_rfl⟩
theorem K56_2 : T.keep 56 2 = [0, 3] ∧ T.out 56 2 = [0, 2] := ⟨by kernel_rfl, by kernel_rfl⟩
theorem K57_2 : T.keep 57 2 = [0, 1, 2, 7] ∧ T.out 57 2 = [0, 1, 6] := ⟨by kernel_rfl, by kernel_rfl⟩
theorem K58_3 : T.keep 58 3 = [0, 3, 4] ∧ T.out 58 3 = [0, 2] := ⟨by kernel_rfl, by kernel_rfl⟩
theorem K58_8 : T.keep 58 8 = [0, 5] ∧ T.out 58 8 = [0, 2] := ⟨by kernel_rfl, by kernel_rfl⟩
theorem K61_2 : T.keep 61 2 = [0, 5, 6] ∧ T.out 61 2 = [0, 2] := ⟨by kernel_rfl, by kernel_rfl⟩
theorem K63_2 : T.keep 63 2 = [0, 3] ∧ T.out 63 2 = [3] := ⟨by kernel_rfl, by kernel_rfl⟩
theorem K64_2 : T.keep 64 2 = [1, 6, 7, 8] ∧ T.out 64 2 = [1, 2] := ⟨by kernel_rfl, by kernel_rfl⟩
theorem K67_2 : T.keep 67 2 = [0, 3] ∧ T.out 67 2 = [3] := ⟨by kernel_rfl, by kernel_rfl⟩
theorem K70_4 : T.keep 70 4 = [0, 3] ∧ T.out 70 4 = [3] := ⟨by kernel_rfl, by kernel_rfl⟩
theorem K78_4 : T.keep 78 4 = [0, 3] ∧ T.out 78 4 = [3] := ⟨by kernel_rfl, by kernel_rfl⟩
theorem K81_2 : T.keep 81 2 = [0, 1, 7, 8] ∧ T.out 81 2 = [4] := ⟨by kernel_rfl, by kernel_rfl⟩
theorem K83_2 : T.keep 83 2 = [0, 3] ∧ T.out 83 2 = [2, 3] := ⟨by kernel_rfl, by kernel_rfl⟩
theorem K88_2 : T.keep 88 2 = [0, 3] ∧ T.out 88 2 = [3] := ⟨by kernel_rfl, by kernel_rfl⟩
theorem K96_7 : T.keep 96 7 = [0, 3, 4] ∧ T.out 96 7 = [0, 3, 4] := ⟨by kernel_rfl, by kernel_rfl⟩
theorem K97_3 : T.keep 97 3 = [0, 3, 4] ∧ T.out 97 3 = [2] := ⟨by kernel_rfl, by kernel_rfl⟩
theorem K100_15 : T.keep 100 15 = [0, 1, 5, 6, 7, 8, 9, 10] ∧ T.out 100 15 = [4] := ⟨by kernel_rfl, by kernel_rfl⟩
theorem W4 : FWN Try.prog T 4 true false := FWN_of (by kernel_rfl)
theorem W11 : FWN Try.prog T 11 true false := FWN_of (by kernel_rfl)
theorem W12 : FWN Try.prog T 12 true false := FWN_of (by kernel_rfl)
theorem W14 : FWN Try.prog T 14 true false := FWN_of (by kernel_rfl)
theorem W15 : FWN Try.prog T 15 true false := FWN_of (by kernel_rfl)
theorem W18 : FWN Try.prog T 18 true false := FWN_of (by kernel_rfl)
theorem W20 : FWN Try.prog T 20 true false := FWN_of (by kernel_rfl)
theorem W27 : FWN Try.prog T 27 true false := FWN_of (by kernel_rfl)
theorem W28 : FWN Try.prog T 28 true false := FWN_of (by kernel_rfl)
theorem W29 : FWN Try.prog T 29 true false := FWN_of (by kernel_rfl)
theorem W30 : FWN Try.prog T 30 true false := FWN_of (by kernel_rfl)
theorem W33 : FWN Try.prog T 33 true false := FWN_of (by kernel_rfl)
theorem W34 : FWN Try.prog T 34 true false := FWN_of (by kernel_rfl)
theorem W35 : FWN Try.prog T 35 true false := FWN_of (by kernel_rfl)
theorem W36 : FWN Try.prog T 36 true false := FWN_of (by kernel_rfl)
theorem W37 : FWN Try.prog T 37 true false := FWN_of (by kernel_rfl)
theorem W38 : FWN Try.prog T 38 true false := FWN_of (by kernel_rfl)
theorem W44 : FWN Try.prog T 44 true false := FWN_of (by kernel_rfl)
theorem W45 : FWN Try.prog T 45 true false := FWN_of (by kernel_rfl)
theorem W46 : FWN Try.prog T 46 true false := FWN_of (by kernel_rfl)
theorem W48 : FWN Try.prog T 48 true false := FWN_of (by kernel_rfl)
theorem W49 : FWN Try.prog T 49 true false := FWN_of (by kernel_rfl)
theorem W50 : FWN Try.prog T 50 true false := FWN_of (by kernel_rfl)
theorem W51 : FWN Try.prog T 51 true false := FWN_of (by kernel_rfl)
theorem W52 : FWN Try.prog T 52 true false := FWN_of (by kernel_rfl)
theorem W53 : FWN Try.prog T 53 true false := FWN_of (by kernel_rfl)
theorem W54 : FWN Try.prog T 54 true false := FWN_of (by kernel_rfl)
theorem W56 : FWN Try.prog T 56 true false := FWN_of (by kernel_rfl)
theorem W57 : FWN Try.prog T 57 true false := FWN_of (by kernel_rfl)
theorem W58 : FWN Try.prog T 58 true false := FWN_of (by kernel_rfl)
theorem W59 : FWN Try.prog T 59 true false := FWN_of (by kernel_rfl)
theorem W60 : FWN Try.prog T 60 true false := FWN_of (by kernel_rfl)
theorem W61 : FWN Try.prog T 61 true false := FWN_of (by kernel_rfl)
theorem W62 : FWN Try.prog T 62 true false := FWN_of (by kernel_rfl)
theorem W63 : FWN Try.prog T 63 true false := FWN_of (by kernel_rfl)
theorem W64 : FWN Try.prog T 64 true false := FWN_of (by kernel_rfl)
theorem W66 : FWN Try.prog T 66 true false := FWN_of (by kernel_rfl)
theorem W67 : FWN Try.prog T 67 true false := FWN_of (by kernel_rfl)
theorem W68 : FWN Try.prog T 68 true false := FWN_of (by kernel_rfl)
theorem W69 : FWN Try.prog T 69 true false := FWN_of (by kernel_rfl)
theorem W70 : FWN Try.prog T 70 true false := FWN_of (by kernel_rfl)
theorem W71 : FWN Try.prog T 71 true false := FWN_of (by kernel_rfl)
theorem W72 : FWN Try.prog T 72 true false := FWN_of (by kernel_rfl)
theorem W73 : FWN Try.prog T 73 true false := FWN_of (by kernel_rfl)
theorem W78 : FWN Try.prog T 78 true false := FWN_of (by kernel_rfl)
theorem W79 : FWN Try.prog T 79 true false := FWN_of (by kernel_rfl)
theorem W80 : FWN Try.prog T 80 true false := FWN_of (by kernel_rfl)
theorem W81 : FWN Try.prog T 81 true false := FWN_of (by kernel_rfl)
theorem W82 : FWN Try.prog T 82 true false := FWN_of (by kernel_rfl)
theorem W83 : FWN Try.prog T 83 true false := FWN_of (by kernel_rfl)
theorem W84 : FWN Try.prog T 84 true false := FWN_of (by kernel_rfl)
theorem W88 : FWN Try.prog T 88 true false := FWN_of (by kernel_rfl)
theorem W89 : FWN Try.prog T 89 true false := FWN_of (by kernel_rfl)
theorem W90 : FWN Try.prog T 90 true false := FWN_of (by kernel_rfl)
theorem W91 : FWN Try.prog T 91 true false := FWN_of (by kernel_rfl)
theorem W92 : FWN Try.prog T 92 true false := FWN_of (by kernel_rfl)
theorem W93 : FWN Try.prog T 93 true false := FWN_of (by kernel_rfl)
theorem W94 : FWN Try.prog T 94 true false := FWN_of (by kernel_rfl)
theorem W96 : FWN Try.prog T 96 true false := FWN_of (by kernel_rfl)
theorem W97 : FWN Try.prog T 97 true false := FWN_of (by kernel_rfl)
theorem W98 : FWN Try.prog T 98 true false := FWN_of (by kernel_rfl)
theorem W99 : FWN Try.prog T 99 true false := FWN_of (by kernel_rfl)
theorem W100 : FWN Try.prog T 100 true false := FWN_of (by kernel_rfl)
theorem Y3 : TY Try.prog 3 Try.t3 1 8 false := ⟨by kernel_rfl, rfl, by kernel_rfl, by kernel_rfl, by kernel_rfl⟩
theorem Z3 : zeroCells Try.prog 3 = some [.d (.v (.int .i64 0))] := by kernel_rfl
theorem Y4 : TY Try.prog 4 Try.t4 1 1 false := ⟨by kernel_rfl, rfl, by kernel_rfl, by kernel_rfl, by kernel_rfl⟩
theorem Z4 : zeroCells Try.prog 4 = some [.d (.v (.bool false))] := by kernel_rfl
theorem Y5 : TY Try.prog 5 Try.t5 1 1 false := ⟨by kernel_rfl, rfl, by kernel_rfl, by kernel_rfl, by kernel_rfl⟩
theorem Z5 : zeroCells Try.prog 5 = some [.d (.v (.int .u8 0))] := by kernel_rfl
theorem Y9 : TY Try.prog 9 Try.t9 1 16 false := ⟨by kernel_rfl, rfl, by kernel_rfl, by kernel_rfl, by kernel_rfl⟩
theorem Z9 : zeroCells Try.prog 9 = some [.d (.v (.string .empty))] := by kernel_rfl
theorem Y22 : TY Try.prog 22 Try.t22 1 24 false := ⟨by kernel_rfl, rfl, by kernel_rfl, by kernel_rfl, by kernel_rfl⟩
theorem E22 : elemT Try.prog 22 = some 54 := by kernel_rfl
theorem Z22 : zeroCells Try.prog 22 = some [.d (.v (.slice none 0 0))] := by kernel_rfl
theorem Y23 : TY Try.prog 23 Try.t23 1 24 false := ⟨by kernel_rfl, rfl, by kernel_rfl, by kernel_rfl, by kernel_rfl⟩
theorem E23 : elemT Try.prog 23 = some 60 := by kernel_rfl
theorem Z23 : zeroCells Try.prog 23 = some [.d (.v (.slice none 0 0))] := by kernel_rfl
theorem Y25 : TY Try.prog 25 Try.t25 2 48 true := ⟨by kernel_rfl, rfl, by kernel_rfl, by kernel_rfl, by kernel_rfl⟩
theorem Z25 : zeroCells Try.prog 25 = some [.d (.v (.slice none 0 0)), .d (.v (.slice none 0 0))] := by kernel_rfl
theorem Y27 : TY Try.prog 27 Try.t27 1 24 false := ⟨by kernel_rfl, rfl, by kernel_rfl, by kernel_rfl, by kernel_rfl⟩
theorem E27 : elemT Try.prog 27 = some 43 := by kernel_rfl
theorem Z27 : zeroCells Try.prog 27 = some [.d (.v (.slice none 0 0))] := by kernel_rfl
theorem Y28 : TY Try.prog 28 Try.t28 1 24 false := ⟨by kernel_rfl, rfl, by kernel_rfl, by kernel_rfl, by kernel_rfl⟩
theorem E28 : elemT Try.prog 28 = some 45 := by kernel_rfl
theorem Z28 : zeroCells Try.prog 28 = some [.d (.v (.slice none 0 0))] := by kernel_rfl
theorem Y30 : TY Try.prog 30 Try.t30 2 48 true := ⟨by kernel_rfl, rfl, by kernel_rfl, by kernel_rfl, by kernel_rfl⟩
theorem Z30 : zeroCells Try.prog 30 = some [.d (.v (.slice none 0 0)), .d (.v (.slice none 0 0))] := by kernel_rfl
theorem Y39 : TY Try.prog 39 Try.t39 1 24 false := ⟨by kernel_rfl, rfl, by kernel_rfl, by kernel_rfl, by kernel_rfl⟩
theorem E39 : elemT Try.prog 39 = some 4 := by kernel_rfl
theorem Z39 : zeroCells Try.prog 39 = some [.d (.v (.slice none 0 0))] := by kernel_rfl
theorem Y41 : TY Try.prog 41 Try.t41 1 24 false := ⟨by kernel_rfl, rfl, by kernel_rfl, by kernel_rfl, by kernel_rfl⟩
theorem E41 : elemT Try.prog 41 = some 3 := by kernel_rfl
theorem Z41 : zeroCells Try.prog 41 = some [.d (.v (.slice none 0 0))] := by kernel_rfl
theorem Y43 : TY Try.prog 43 Try.t43 3 48 true := ⟨by kernel_rfl, rfl, by kernel_rfl, by kernel_rfl, by kernel_rfl⟩
theorem Z43 : zeroCells Try.prog 43 = some [.d (.v (.int .i64 0)), .d (.v (.string .empty)), .d (.v (.slice none 0 0))] := by kernel_rfl
theorem Y45 : TY Try.prog 45 Try.t45 3 24 true := ⟨by kernel_rfl, rfl, by kernel_rfl, by kernel_rfl, by kernel_rfl⟩
theorem Z45 : zeroCells Try.prog 45 = some [.d (.v (.int .i64 0)), .d (.v (.int .i64 0)), .d (.v (.int .i64 0))] := by kernel_rfl
theorem Y54 : TY Try.prog 54 Try.t54 3 48 true := ⟨by kernel_rfl, rfl, by kernel_rfl, by kernel_rfl, by kernel_rfl⟩
theorem Z54 : zeroCells Try.prog 54 = some [.d (.v (.int .i64 0)), .d (.v (.string .empty)), .d (.v (.slice none 0 0))] := by kernel_rfl
theorem Y60 : TY Try.prog 60 Try.t60 3 24 true := ⟨by kernel_rfl, rfl, by kernel_rfl, by kernel_rfl, by kernel_rfl⟩
theorem Z60 : zeroCells Try.prog 60 = some [.d (.v (.int .i64 0)), .d (.v (.int .i64 0)), .d (.v (.int .i64 0))] := by kernel_rfl
theorem Y74 : TY Try.prog 74 Try.t74 1 24 false := ⟨by kernel_rfl, rfl, by kernel_rfl, by kernel_rfl, by kernel_rfl⟩
theorem E74 : elemT Try.prog 74 = some 96 := by kernel_rfl
theorem Z74 : zeroCells Try.prog 74 = some [.d (.v (.slice none 0 0))] := by kernel_rfl
theorem Y76 : TY Try.prog 76 Try.t76 1 24 true := ⟨by kernel_rfl, rfl, by kernel_rfl, by kernel_rfl, by kernel_rfl⟩
theorem Z76 : zeroCells Try.prog 76 = some [.d (.v (.slice none 0 0))] := by kernel_rfl
theorem Y81 : TY Try.prog 81 Try.t81 1 24 false := ⟨by kernel_rfl, rfl, by kernel_rfl, by kernel_rfl, by kernel_rfl⟩
theorem E81 : elemT Try.prog 81 = some 5 := by kernel_rfl
theorem Z81 : zeroCells Try.prog 81 = some [.d (.v (.slice none 0 0))] := by kernel_rfl
theorem Y84 : TY Try.prog 84 Try.t84 1 8 false := ⟨by kernel_rfl, rfl, by kernel_rfl, by kernel_rfl, by kernel_rfl⟩
theorem Z84 : zeroCells Try.prog 84 = some [.d (.v (.pointer none))] := by kernel_rfl
theorem Y86 : TY Try.prog 86 Try.t86 3 48 true := ⟨by kernel_rfl, rfl, by kernel_rfl, by kernel_rfl, by kernel_rfl⟩
theorem Z86 : zeroCells Try.prog 86 = some [.d (.v (.string .empty)), .d (.v (.slice none 0 0)), .d (.v (.bool false))] := by kernel_rfl
theorem Y90 : TY Try.prog 90 Try.t90 1 24 false := ⟨by kernel_rfl, rfl, by kernel_rfl, by kernel_rfl, by kernel_rfl⟩
theorem E90 : elemT Try.prog 90 = some 9 := by kernel_rfl
theorem Z90 : zeroCells Try.prog 90 = some [.d (.v (.slice none 0 0))] := by kernel_rfl
theorem Y91 : TY Try.prog 91 Try.t91 1 8 false := ⟨by kernel_rfl, rfl, by kernel_rfl, by kernel_rfl, by kernel_rfl⟩
theorem Z91 : zeroCells Try.prog 91 = some [.d (.v (.pointer none))] := by kernel_rfl
theorem Y93 : TY Try.prog 93 Try.t93 4 56 true := ⟨by kernel_rfl, rfl, by kernel_rfl, by kernel_rfl, by kernel_rfl⟩
theorem Z93 : zeroCells Try.prog 93 = some [.d (.v (.string .empty)), .d (.v (.int .i64 0)), .d (.v (.bool false)), .d (.v (.slice none 0 0))] := by kernel_rfl
theorem Y96 : TY Try.prog 96 Try.t96 3 48 true := ⟨by kernel_rfl, rfl, by kernel_rfl, by kernel_rfl, by kernel_rfl⟩
theorem Z96 : zeroCells Try.prog 96 = some [.d (.v (.int .i64 0)), .d (.v (.string .empty)), .d (.v (.slice none 0 0))] := by kernel_rfl
theorem BE4 (x y : Operand) (a b : Bool) : pure1 Try.prog (do eqGuard .eql 4 x y (.bool a) (.bool b); binOp .eql 4 (.bool a) (.bool b)) = some (.one (.c (.d (.v (.bool (a == b)))))) := bin_beql 4 x y Try.underlying4 a b
theorem BN4 (x y : Operand) (a b : Bool) : pure1 Try.prog (do eqGuard .neq 4 x y (.bool a) (.bool b); binOp .neq 4 (.bool a) (.bool b)) = some (.one (.c (.d (.v (.bool (!(a == b))))))) := bin_bneq 4 x y Try.underlying4 a b
theorem LN9 (s : ByteArray) : pure1 Try.prog (Builtin.len_ #[9] 0 #[.string s]) = some (.one (.c (.d (.v (.int .i64 s.size))))) := len_str rfl Try.underlying9 s
theorem IX9 (l : List UInt8) (k : IntKind) (i : Int) (h : 0 ≤ i ∧ i.toNat < l.length) : pure1 Try.prog (Instr.index 9 (.string (B l)) (.int k i)) = some (.one (.c (.d (.v (.int .u8 (l[i.toNat]'h.2).toNat))))) := ix_B Try.underlying9 l k i h
theorem CV5_3 (k : IntKind) (n : Int) : pure1 Try.prog (convert 5 3 (.int k n)) = some (.one (.c (.d (.v (.int .i64 ((Go.IntKind.i64).wrap n)))))) := conv_int Try.underlying5 Try.underlying3 k n
attribute [go_sem] nestT K11_5 K14_4 K14_9 K15_3 K15_9 K15_12 K18_2 K18_8 K20_3 K20_11 K20_14 K28_6 K34_2 K36_3 K48_2 K56_2 K57_2 K58_3 K58_8 K61_2 K63_2 K64_2 K67_2 K70_4 K78_4 K81_2 K83_2 K88_2 K96_7 K97_3 K100_15 W4 W11 W12 W14 W15 W18 W20 W27 W28 W29 W30 W33 W34 W35 W36 W37 W38 W44 W45 W46 W48 W49 W50 W51 W52 W53 W54 W56 W57 W58 W59 W60 W61 W62 W63 W64 W66 W67 W68 W69 W70 W71 W72 W73 W78 W79 W80 W81 W82 W83 W84 W88 W89 W90 W91 W92 W93 W94 W96 W97 W98 W99 W100 Y3 Try.underlying3 Z3 Y4 Try.underlying4 Z4 Y5 Try.underlying5 Z5 Y9 Try.underlying9 Z9 Y22 Try.underlying22 E22 Z22 Y23 Try.underlying23 E23 Z23 Y25 Try.underlying25 Z25 Y27 Try.underlying27 E27 Z27 Y28 Try.underlying28 E28 Z28 Y30 Try.underlying30 Z30 Y39 Try.underlying39 E39 Z39 Y41 Try.underlying41 E41 Z41 Y43 Try.underlying43 Z43 Y45 Try.underlying45 Z45 Y54 Try.underlying54 Z54 Y60 Try.underlying60 Z60 Y74 Try.underlying74 E74 Z74 Y76 Try.underlying76 Z76 Y81 Try.underlying81 E81 Z81 Y84 Try.underlying84 Z84 Y86 Try.underlying86 Z86 Y90 Try.underlying90 E90 Z90 Y91 Try.underlying91 Z91 Y93 Try.underlying93 Z93 Y96 Try.underlying96 Z96
attribute [go_sem ↓] BE4 BN4 LN9 CV5_3
end Go.Vsi
