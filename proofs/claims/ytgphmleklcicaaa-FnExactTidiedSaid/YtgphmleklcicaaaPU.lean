/- The seat's table of hints for the abstract interpreter, and closed facts of its functions and types. Printed by our own program (wip/tool/tab6.py). -/
import Derived.Test.YtgphmleklcicaaaProg
import Derived.Test.YtgphmleklcicaaaPT
import Derived.KernelRfl
namespace Go.Vsi
open Go.Proofs
def T1 : Tab := mkT [(5, 8, [1, 2, 3, 4, 5, 6, 7]), (5, 14, [1, 2, 3, 4, 5, 6, 7, 8, 9]), (5, 19, [1, 2, 5, 6, 10]), (7, 7, [1, 2, 3, 4, 5, 26, 27, 28]), (7, 12, [1, 2, 3, 4, 5, 6, 8, 26, 27, 28, 44, 45, 46]), (7, 20, [2, 3, 4, 74, 75, 76]), (13, 3, [1, 2, 3, 4]), (14, 4, [1, 3]), (14, 9, [1, 4]), (15, 3, [1, 3, 4]), (15, 9, [1, 3, 5]), (15, 12, [1, 3, 5, 6]), (16, 3, [0, 3, 4]), (17, 3, [0, 3, 4]), (18, 2, [1, 8, 9, 10]), (18, 8, [1, 39, 40, 41]), (19, 3, [2, 3, 12, 13, 14]), (20, 3, [1, 2, 5, 16, 17, 18]), (20, 11, [2, 5, 8]), (20, 14, [2, 5, 8, 55, 56, 57]), (21, 4, [0, 1, 5]), (22, 4, [0, 1, 5]), (23, 2, [0, 1, 5]), (24, 2, [0, 1, 5]), (25, 2, [0, 1, 5]), (26, 2, [0, 1, 5]), (41, 4, [0, 3]), (42, 2, [0, 1, 5]), (43, 2, [0, 1, 5]), (47, 3, [0, 3, 4]), (55, 4, [0, 1, 5])] [(5, 8, [1, 2, 5, 6]), (5, 14, [1, 2, 3, 4, 5, 6, 7, 8]), (5, 19, [2, 6]), (7, 7, [1, 2, 3, 4]), (7, 12, [1, 2, 3, 4, 5, 6, 8, 26, 27, 28]), (7, 20, [2, 4]), (13, 3, [2, 3]), (14, 4, [1, 2]), (14, 9, [2]), (15, 3, [1, 3]), (15, 9, [3]), (15, 12, [1, 3, 5]), (16, 3, [3]), (17, 3, [3]), (18, 2, [1, 2]), (18, 8, [1, 2]), (19, 3, [2, 3]), (20, 3, [2, 5]), (20, 11, [5]), (20, 14, [2, 5, 8]), (21, 4, [4]), (22, 4, [4]), (23, 2, [1]), (24, 2, [1]), (25, 2, [1, 4]), (26, 2, [1, 4]), (41, 4, [3]), (42, 2, [1]), (43, 2, [1, 4]), (47, 3, [3]), (55, 4, [4])] [(5, 1, [1])] [(5, 12, [.up 3 0 7 2]), (5, 13, [.lose 3 0 7 2]), (16, 2, [.nest 3 0]), (23, 3, [.down 0 0 5 2]), (23, 8, [.up 0 0 5 2])] [7, 8, 10, 14, 18, 21, 22, 25, 26, 39, 40, 43, 55, 1000000] [6, 7, 13, 16, 17, 19, 31, 32, 38, 47] []
theorem nestT1 : nestB T1.lend = true := by kernel_rfl
theorem L5_8 : T1.keep 5 8 = [1, 2, 3, 4, 5, 6, 7] ∧ T1.out 5 8 = [1, 2, 5, 6] := ⟨by kernel_rfl, by kernel_rfl⟩
theorem L5_14 : T1.keep 5 14 = [1, 2, 3, 4, 5, 6, 7, 8, 9] ∧ T1.out 5 14 = [1, 2, 3, 4, 5, 6, 7, 8] := ⟨by kernel_rfl, by kernel_rfl⟩
theorem L5_19 : T1.keep 5 19 = [1, 2, 5, 6, 10] ∧ T1.out 5 19 = [2, 6] := ⟨by kernel_rfl, by kernel_rfl⟩
theorem L7_7 : T1.keep 7 7 = [1, 2, 3, 4, 5, 26, 27, 28] ∧ T1.out 7 7 = [1, 2, 3, 4] := ⟨by kernel_rfl, by kernel_rfl⟩
theorem L7_12 : T1.keep 7 12 = [1, 2, 3, 4, 5, 6, 8, 26, 27, 28, 44, 45, 46] ∧ T1.out 7 12 = [1, 2, 3, 4, 5, 6, 8, 26, 27, 28] := ⟨by kernel_rfl, by kernel_rfl⟩
theorem L7_20 : T1.keep 7 20 = [2, 3, 4, 74, 75, 76] ∧ T1.out 7 20 = [2, 4] := ⟨by kernel_rfl, by kernel_rfl⟩
theorem L13_3 : T1.keep 13 3 = [1, 2, 3, 4] ∧ T1.out 13 3 = [2, 3] := ⟨by kernel_rfl, by kernel_rfl⟩
theorem L14_4 : T1.keep 14 4 = [1, 3] ∧ T1.out 14 4 = [1, 2] := ⟨by kernel_rfl, by kernel_rfl⟩
theorem L14_9 : T1.keep 14 9 = [1, 4] ∧ T1.out 14 9 = [2] := ⟨by kernel_rfl, by kernel_rfl⟩
theorem L15_3 : T1.keep 15 3 = [1, 3, 4] ∧ T1.out 15 3 = [1, 3] := ⟨by kernel_rfl, by kernel_rfl⟩
theorem L15_9 : T1.keep 15 9 = [1, 3, 5] ∧ T1.out 15 9 = [3] := ⟨by kernel_rfl, by kernel_rfl⟩
theorem L15_12 : T1.keep 15 12 = [1, 3, 5, 6] ∧ T1.out 15 12 = [1, 3, 5] := ⟨by kernel_rfl, by kernel_rfl⟩
theorem L16_3 : T1.keep 16 3 = [0, 3, 4] ∧ T1.out 16 3 = [3] := ⟨by kernel_rfl, by kernel_rfl⟩
theorem L17_3 : T1.keep 17 3 = [0, 3, 4] ∧ T1.out 17 3 = [3] := ⟨by kernel_rfl, by kernel_rfl⟩
theorem L18_2 : T1.keep 18 2 = [1, 8, 9, 10] ∧ T1.out 18 2 = [1, 2] := ⟨by kernel_rfl, by kernel_rfl⟩
theorem L18_8 : T1.keep 18 8 = [1, 39, 40, 41] ∧ T1.out 18 8 = [1, 2] := ⟨by kernel_rfl, by kernel_rfl⟩
theorem L19_3 : T1.keep 19 3 = [2, 3, 12, 13, 14] ∧ T1.out 19 3 = [2, 3] := ⟨by kernel_rfl, by kernel_rfl⟩
theorem L20_3 : T1.keep 20 3 = [1, 2, 5, 16, 17, 18] ∧ T1.out 20 3 = [2, 5] := ⟨by kernel_rfl, by kernel_rfl⟩
theorem L20_11 : T1.keep 20 11 = [2, 5, 8] ∧ T1.out 20 11 = [5] := ⟨by kernel_rfl, by kernel_rfl⟩
theorem L20_14 : T1.keep 20 14 = [2, 5, 8, 55, 56, 57] ∧ T1.out 20 14 = [2, 5, 8] := ⟨by kernel_rfl, by kernel_rfl⟩
theorem L21_4 : T1.keep 21 4 = [0, 1, 5] ∧ T1.out 21 4 = [4] := ⟨by kernel_rfl, by kernel_rfl⟩
theorem L22_4 : T1.keep 22 4 = [0, 1, 5] ∧ T1.out 22 4 = [4] := ⟨by kernel_rfl, by kernel_rfl⟩
theorem L23_2 : T1.keep 23 2 = [0, 1, 5] ∧ T1.out 23 2 = [1] := ⟨by kernel_rfl, by kernel_rfl⟩
theorem L24_2 : T1.keep 24 2 = [0, 1, 5] ∧ T1.out 24 2 = [1] := ⟨by kernel_rfl, by kernel_rfl⟩
theorem L25_2 : T1.keep 25 2 = [0, 1, 5] ∧ T1.out 25 2 = [1, 4] := ⟨by kernel_rfl, by kernel_rfl⟩
theorem L26_2 : T1.keep 26 2 = [0, 1, 5] ∧ T1.out 26 2 = [1, 4] := ⟨by kernel_rfl, by kernel_rfl⟩
theorem L41_4 : T1.keep 41 4 = [0, 3] ∧ T1.out 41 4 = [3] := ⟨by kernel_rfl, by kernel_rfl⟩
theorem L42_2 : T1.keep 42 2 = [0, 1, 5] ∧ T1.out 42 2 = [1] := ⟨by kernel_rfl, by kernel_rfl⟩
theorem L43_2 : T1.keep 43 2 = [0, 1, 5] ∧ T1.out 43 2 = [1, 4] := ⟨by kernel_rfl, by kernel_rfl⟩
theorem L47_3 : T1.keep 47 3 = [0, 3, 4] ∧ T1.out 47 3 = [3] := ⟨by kernel_rfl, by kernel_rfl⟩
theorem L55_4 : T1.keep 55 4 = [0, 1, 5] ∧ T1.out 55 4 = [4] := ⟨by kernel_rfl, by kernel_rfl⟩
theorem V3 : FWN Try.prog T1 3 true false := FWN_of (by kernel_rfl)
theorem V4 : FWN Try.prog T1 4 true false := FWN_of (by kernel_rfl)
theorem V5 : FW Try.prog T1 5 true false := FW_of (by kernel_rfl)
theorem Q5_0 : T1.pre 5 0 = [] ∧ T1.frz 5 0 = [] ∧ T1.ord 5 0 = [] := ⟨by kernel_rfl, by kernel_rfl, rfl⟩
theorem Q5_1 : T1.pre 5 1 = [] ∧ T1.frz 5 1 = [1] ∧ T1.ord 5 1 = [] := ⟨by kernel_rfl, by kernel_rfl, rfl⟩
theorem Q5_2 : T1.pre 5 2 = [] ∧ T1.frz 5 2 = [] ∧ T1.ord 5 2 = [] := ⟨by kernel_rfl, by kernel_rfl, rfl⟩
theorem Q5_3 : T1.pre 5 3 = [] ∧ T1.frz 5 3 = [] ∧ T1.ord 5 3 = [] := ⟨by kernel_rfl, by kernel_rfl, rfl⟩
theorem Q5_4 : T1.pre 5 4 = [] ∧ T1.frz 5 4 = [] ∧ T1.ord 5 4 = [] := ⟨by kernel_rfl, by kernel_rfl, rfl⟩
theorem Q5_5 : T1.pre 5 5 = [] ∧ T1.frz 5 5 = [] ∧ T1.ord 5 5 = [] := ⟨by kernel_rfl, by kernel_rfl, rfl⟩
theorem Q5_6 : T1.pre 5 6 = [] ∧ T1.frz 5 6 = [] ∧ T1.ord 5 6 = [] := ⟨by kernel_rfl, by kernel_rfl, rfl⟩
theorem Q5_7 : T1.pre 5 7 = [] ∧ T1.frz 5 7 = [] ∧ T1.ord 5 7 = [] := ⟨by kernel_rfl, by kernel_rfl, rfl⟩
theorem Q5_8 : T1.pre 5 8 = [] ∧ T1.frz 5 8 = [] ∧ T1.ord 5 8 = [] := ⟨by kernel_rfl, by kernel_rfl, rfl⟩
theorem Q5_10 : T1.pre 5 10 = [] ∧ T1.frz 5 10 = [] ∧ T1.ord 5 10 = [] := ⟨by kernel_rfl, by kernel_rfl, rfl⟩
theorem Q5_11 : T1.pre 5 11 = [] ∧ T1.frz 5 11 = [] ∧ T1.ord 5 11 = [] := ⟨by kernel_rfl, by kernel_rfl, rfl⟩
theorem Q5_12 : T1.pre 5 12 = [.up 3 0 7 2] ∧ T1.frz 5 12 = [] ∧ T1.ord 5 12 = [] := ⟨by kernel_rfl, by kernel_rfl, rfl⟩
theorem Q5_13 : T1.pre 5 13 = [.lose 3 0 7 2] ∧ T1.frz 5 13 = [] ∧ T1.ord 5 13 = [] := ⟨by kernel_rfl, by kernel_rfl, rfl⟩
theorem Q5_14 : T1.pre 5 14 = [] ∧ T1.frz 5 14 = [] ∧ T1.ord 5 14 = [] := ⟨by kernel_rfl, by kernel_rfl, rfl⟩
theorem Q5_16 : T1.pre 5 16 = [] ∧ T1.frz 5 16 = [] ∧ T1.ord 5 16 = [] := ⟨by kernel_rfl, by kernel_rfl, rfl⟩
theorem Q5_15 : T1.pre 5 15 = [] ∧ T1.frz 5 15 = [] ∧ T1.ord 5 15 = [] := ⟨by kernel_rfl, by kernel_rfl, rfl⟩
theorem Q5_17 : T1.pre 5 17 = [] ∧ T1.frz 5 17 = [] ∧ T1.ord 5 17 = [] := ⟨by kernel_rfl, by kernel_rfl, rfl⟩
theorem Q5_9 : T1.pre 5 9 = [] ∧ T1.frz 5 9 = [] ∧ T1.ord 5 9 = [] := ⟨by kernel_rfl, by kernel_rfl, rfl⟩
theorem Q5_18 : T1.pre 5 18 = [] ∧ T1.frz 5 18 = [] ∧ T1.ord 5 18 = [] := ⟨by kernel_rfl, by kernel_rfl, rfl⟩
theorem Q5_19 : T1.pre 5 19 = [] ∧ T1.frz 5 19 = [] ∧ T1.ord 5 19 = [] := ⟨by kernel_rfl, by kernel_rfl, rfl⟩
theorem Q5_21 : T1.pre 5 21 = [] ∧ T1.frz 5 21 = [] ∧ T1.ord 5 21 = [] := ⟨by kernel_rfl, by kernel_rfl, rfl⟩
theorem Q5_22 : T1.pre 5 22 = [] ∧ T1.frz 5 22 = [] ∧ T1.ord 5 22 = [] := ⟨by kernel_rfl, by kernel_rfl, rfl⟩
theorem Q5_23 : T1.pre 5 23 = [] ∧ T1.frz 5 23 = [] ∧ T1.ord 5 23 = [] := ⟨by kernel_rfl, by kernel_rfl, rfl⟩
theorem Q5_24 : T1.pre 5 24 = [] ∧ T1.frz 5 24 = [] ∧ T1.ord 5 24 = [] := ⟨by kernel_rfl, by kernel_rfl, rfl⟩
theorem Q5_25 : T1.pre 5 25 = [] ∧ T1.frz 5 25 = [] ∧ T1.ord 5 25 = [] := ⟨by kernel_rfl, by kernel_rfl, rfl⟩
theorem Q5_20 : T1.pre 5 20 = [] ∧ T1.frz 5 20 = [] ∧ T1.ord 5 20 = [] := ⟨by kernel_rfl, by kernel_rfl, rfl⟩
theorem Q5_26 : T1.pre 5 26 = [] ∧ T1.frz 5 26 = [] ∧ T1.ord 5 26 = [] := ⟨by kernel_rfl, by kernel_rfl, rfl⟩
theorem V6 : FWN Try.prog T1 6 false false := FWN_of (by kernel_rfl)
theorem V7 : FWN Try.prog T1 7 false true := FWN_of (by kernel_rfl)
theorem V8 : FWN Try.prog T1 8 true true := FWN_of (by kernel_rfl)
theorem V9 : FWN Try.prog T1 9 true false := FWN_of (by kernel_rfl)
theorem V10 : FWN Try.prog T1 10 true true := FWN_of (by kernel_rfl)
theorem V13 : FWN Try.prog T1 13 false false := FWN_of (by kernel_rfl)
theorem V14 : FWN Try.prog T1 14 true true := FWN_of (by kernel_rfl)
theorem V15 : FWN Try.prog T1 15 true false := FWN_of (by kernel_rfl)
theorem V16 : FW Try.prog T1 16 false false := FW_of (by kernel_rfl)
theorem Q16_0 : T1.pre 16 0 = [] ∧ T1.frz 16 0 = [] ∧ T1.ord 16 0 = [] := ⟨by kernel_rfl, by kernel_rfl, rfl⟩
theorem Q16_1 : T1.pre 16 1 = [] ∧ T1.frz 16 1 = [] ∧ T1.ord 16 1 = [] := ⟨by kernel_rfl, by kernel_rfl, rfl⟩
theorem Q16_2 : T1.pre 16 2 = [.nest 3 0] ∧ T1.frz 16 2 = [] ∧ T1.ord 16 2 = [] := ⟨by kernel_rfl, by kernel_rfl, rfl⟩
theorem Q16_3 : T1.pre 16 3 = [] ∧ T1.frz 16 3 = [] ∧ T1.ord 16 3 = [] := ⟨by kernel_rfl, by kernel_rfl, rfl⟩
theorem Q16_5 : T1.pre 16 5 = [] ∧ T1.frz 16 5 = [] ∧ T1.ord 16 5 = [] := ⟨by kernel_rfl, by kernel_rfl, rfl⟩
theorem Q16_4 : T1.pre 16 4 = [] ∧ T1.frz 16 4 = [] ∧ T1.ord 16 4 = [] := ⟨by kernel_rfl, by kernel_rfl, rfl⟩
theorem Q16_6 : T1.pre 16 6 = [] ∧ T1.frz 16 6 = [] ∧ T1.ord 16 6 = [] := ⟨by kernel_rfl, by kernel_rfl, rfl⟩
theorem V17 : FWN Try.prog T1 17 false false := FWN_of (by kernel_rfl)
theorem V18 : FWN Try.prog T1 18 true true := FWN_of (by kernel_rfl)
theorem V19 : FWN Try.prog T1 19 false false := FWN_of (by kernel_rfl)
theorem V20 : FWN Try.prog T1 20 true false := FWN_of (by kernel_rfl)
theorem V21 : FWN Try.prog T1 21 true true := FWN_of (by kernel_rfl)
theorem V22 : FWN Try.prog T1 22 true true := FWN_of (by kernel_rfl)
theorem V23 : FW Try.prog T1 23 true false := FW_of (by kernel_rfl)
theorem Q23_0 : T1.pre 23 0 = [] ∧ T1.frz 23 0 = [] ∧ T1.ord 23 0 = [] := ⟨by kernel_rfl, by kernel_rfl, rfl⟩
theorem Q23_1 : T1.pre 23 1 = [] ∧ T1.frz 23 1 = [] ∧ T1.ord 23 1 = [] := ⟨by kernel_rfl, by kernel_rfl, rfl⟩
theorem Q23_2 : T1.pre 23 2 = [] ∧ T1.frz 23 2 = [] ∧ T1.ord 23 2 = [] := ⟨by kernel_rfl, by kernel_rfl, rfl⟩
theorem Q23_4 : T1.pre 23 4 = [] ∧ T1.frz 23 4 = [] ∧ T1.ord 23 4 = [] := ⟨by kernel_rfl, by kernel_rfl, rfl⟩
theorem Q23_5 : T1.pre 23 5 = [] ∧ T1.frz 23 5 = [] ∧ T1.ord 23 5 = [] := ⟨by kernel_rfl, by kernel_rfl, rfl⟩
theorem Q23_6 : T1.pre 23 6 = [] ∧ T1.frz 23 6 = [] ∧ T1.ord 23 6 = [] := ⟨by kernel_rfl, by kernel_rfl, rfl⟩
theorem Q23_7 : T1.pre 23 7 = [] ∧ T1.frz 23 7 = [] ∧ T1.ord 23 7 = [] := ⟨by kernel_rfl, by kernel_rfl, rfl⟩
theorem Q23_8 : T1.pre 23 8 = [.up 0 0 5 2] ∧ T1.frz 23 8 = [] ∧ T1.ord 23 8 = [] := ⟨by kernel_rfl, by kernel_rfl, rfl⟩
theorem Q23_3 : T1.pre 23 3 = [.down 0 0 5 2] ∧ T1.frz 23 3 = [] ∧ T1.ord 23 3 = [] := ⟨by kernel_rfl, by kernel_rfl, rfl⟩
theorem Q23_9 : T1.pre 23 9 = [] ∧ T1.frz 23 9 = [] ∧ T1.ord 23 9 = [] := ⟨by kernel_rfl, by kernel_rfl, rfl⟩
theorem V24 : FWN Try.prog T1 24 true false := FWN_of (by kernel_rfl)
theorem V25 : FWN Try.prog T1 25 true true := FWN_of (by kernel_rfl)
theorem V26 : FWN Try.prog T1 26 true true := FWN_of (by kernel_rfl)
theorem V31 : FWN Try.prog T1 31 false false := FWN_of (by kernel_rfl)
theorem V32 : FWN Try.prog T1 32 false false := FWN_of (by kernel_rfl)
theorem V38 : FWN Try.prog T1 38 false false := FWN_of (by kernel_rfl)
theorem V39 : FWN Try.prog T1 39 true true := FWN_of (by kernel_rfl)
theorem V40 : FWN Try.prog T1 40 true true := FWN_of (by kernel_rfl)
theorem V41 : FWN Try.prog T1 41 true false := FWN_of (by kernel_rfl)
theorem V42 : FWN Try.prog T1 42 true false := FWN_of (by kernel_rfl)
theorem V43 : FWN Try.prog T1 43 true true := FWN_of (by kernel_rfl)
theorem V47 : FWN Try.prog T1 47 false false := FWN_of (by kernel_rfl)
theorem V51 : FWN Try.prog T1 51 true false := FWN_of (by kernel_rfl)
theorem V55 : FWN Try.prog T1 55 true true := FWN_of (by kernel_rfl)
theorem V59 : FWN Try.prog T1 59 true false := FWN_of (by kernel_rfl)
theorem CV3_5 (k : IntKind) (n : Int) : pure1 Try.prog (convert 3 5 (.int k n)) = some (.one (.c (.d (.v (.int .u8 ((Go.IntKind.u8).wrap n)))))) := conv_int Try.underlying3 Try.underlying5 k n
attribute [go_sem] nestT1 L5_8 L5_14 L5_19 L7_7 L7_12 L7_20 L13_3 L14_4 L14_9 L15_3 L15_9 L15_12 L16_3 L17_3 L18_2 L18_8 L19_3 L20_3 L20_11 L20_14 L21_4 L22_4 L23_2 L24_2 L25_2 L26_2 L41_4 L42_2 L43_2 L47_3 L55_4 V3 V4 V5 Q5_0 Q5_1 Q5_2 Q5_3 Q5_4 Q5_5 Q5_6 Q5_7 Q5_8 Q5_10 Q5_11 Q5_12 Q5_13 Q5_14 Q5_16 Q5_15 Q5_17 Q5_9 Q5_18 Q5_19 Q5_21 Q5_22 Q5_23 Q5_24 Q5_25 Q5_20 Q5_26 V6 V7 V8 V9 V10 V13 V14 V15 V16 Q16_0 Q16_1 Q16_2 Q16_3 Q16_5 Q16_4 Q16_6 V17 V18 V19 V20 V21 V22 V23 Q23_0 Q23_1 Q23_2 Q23_4 Q23_5 Q23_6 Q23_7 Q23_8 Q23_3 Q23_9 V24 V25 V26 V31 V32 V38 V39 V40 V41 V42 V43 V47 V51 V55 V59
attribute [go_sem ↓] CV3_5
end Go.Vsi
