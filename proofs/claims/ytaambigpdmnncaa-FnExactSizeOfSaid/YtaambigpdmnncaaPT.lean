/- The seat's table of hints for the abstract interpreter, and closed facts of its types. Printed by our own program (wip/tool/tab.py). -/
import Derived.Test.YtaambigpdmnncaaProg
import Derived.Test.YtaambigpdmnncaaV4
import Derived.KernelRfl
namespace Go.Vsi
open Go.Proofs
def assoc2 : List (Nat × Nat × List Nat) → Nat → Nat → List Nat
  | [], _, _ => []
  | (a, b, l) :: r, f, k => match Nat.beq a f && Nat.beq b k with | true => l | false => assoc2 r f k
def keepT : List (Nat × Nat × List Nat) := [(5, 6, [3, 4, 5]), (7, 5, [3, 10, 11, 12]), (9, 5, [0, 1, 5]), (11, 4, [1, 3]), (11, 9, [1, 4]), (12, 3, [1, 3, 4]), (12, 9, [1, 3, 5]), (12, 12, [1, 3, 5, 6]), (13, 3, [0, 3, 4]), (14, 3, [0, 3, 4]), (15, 2, [1, 8, 9, 10]), (15, 8, [1, 39, 40, 41]), (16, 3, [1, 2, 5, 16, 17, 18]), (16, 11, [2, 5, 8]), (16, 14, [2, 5, 8, 55, 56, 57]), (18, 4, [0, 1, 5]), (19, 4, [0, 1, 5]), (21, 6, [1, 2, 5, 8]), (27, 2, [1, 7, 8, 9]), (29, 3, [2, 3, 5, 6, 17, 18, 19]), (36, 3, [0, 3, 4]), (37, 2, [0, 1, 2, 9, 10]), (44, 4, [0, 1, 5]), (45, 2, [0, 3]), (46, 2, [0, 1, 2, 7]), (47, 3, [0, 3, 4]), (47, 8, [0, 5]), (50, 2, [0, 5, 6]), (52, 2, [0, 3]), (53, 2, [1, 6, 7, 8]), (54, 12, [0, 6, 8]), (54, 18, [1, 45]), (56, 2, [0, 3]), (59, 4, [0, 3]), (63, 38, [175]), (65, 2, [0, 2, 4]), (67, 4, [0, 3]), (70, 2, [0, 1, 7, 8]), (72, 2, [0, 3]), (78, 2, [0, 3]), (86, 7, [0, 3, 4]), (87, 3, [0, 3, 4]), (90, 15, [0, 1, 5, 6, 7, 8, 9, 10]), (91, 5, [0, 1, 5, 6, 7, 8, 9]), (91, 11, [0, 1, 5, 6, 7, 8, 10]), (92, 3, [0, 4, 5]), (92, 8, [4, 6, 7, 8])]
def outT : List (Nat × Nat × List Nat) := [(5, 6, [4]), (7, 5, [3]), (9, 5, [1, 4]), (11, 4, [1, 2]), (11, 9, [2]), (12, 3, [1, 3]), (12, 9, [3]), (12, 12, [1, 3, 5]), (13, 3, [3]), (14, 3, [3]), (15, 2, [1, 2]), (15, 8, [1, 2]), (16, 3, [2, 5]), (16, 11, [5]), (16, 14, [2, 5, 8]), (18, 4, [4]), (19, 4, [4]), (21, 6, [4]), (27, 2, [4]), (29, 3, [3, 4, 5, 6]), (36, 3, [3]), (37, 2, [0, 1, 2, 6]), (44, 4, [4]), (45, 2, [0, 2]), (46, 2, [0, 1, 6]), (47, 3, [0, 2]), (47, 8, [0, 2]), (50, 2, [0, 2]), (52, 2, [3]), (53, 2, [1, 2]), (54, 12, [4]), (54, 18, [4]), (56, 2, [3]), (59, 4, [3]), (63, 38, [4]), (65, 2, [2, 3]), (67, 4, [3]), (70, 2, [4]), (72, 2, [2, 3]), (78, 2, [3]), (86, 7, [0, 3, 4]), (87, 3, [2]), (90, 15, [4]), (91, 5, [0, 1, 5, 6, 7, 8]), (91, 11, [4]), (92, 3, [0, 4]), (92, 8, [4, 6])]
def lendT : List Nat := []
def rawT : List Nat := []
def offT : List Nat := []
def T : Tab where
  keep := assoc2 keepT
  out := assoc2 outT
  frz := fun _ _ => []
  fin := fun f => !rawT.elem f
  lend := fun f => lendT.elem f
  ord := fun _ _ => []
  on := fun f => !offT.elem f
theorem frzT (f r : Nat) : T.frz f r = [] := rfl
theorem ordT (f r : Nat) : T.ord f r = [] := rfl
theorem K5_6 : T.keep 5 6 = [3, 4, 5] := by kernel_rfl
theorem K7_5 : T.keep 7 5 = [3, 10, 11, 12] := by kernel_rfl
theorem K9_5 : T.keep 9 5 = [0, 1, 5] := by kernel_rfl
theorem K11_4 : T.keep 11 4 = [1, 3] := by kernel_rfl
theorem K11_9 : T.keep 11 9 = [1, 4] := by kernel_rfl
theorem K12_3 : T.keep 12 3 = [1, 3, 4] := by kernel_rfl
theorem K12_9 : T.keep 12 9 = [1, 3, 5] := by kernel_rfl
theorem K12_12 : T.keep 12 12 = [1, 3, 5, 6] := by kernel_rfl
theorem K13_3 : T.keep 13 3 = [0, 3, 4] := by kernel_rfl
theorem K14_3 : T.keep 14 3 = [0, 3, 4] := by kernel_rfl
theorem K15_2 : T.keep 15 2 = [1, 8, 9, 10] := by kernel_rfl
theorem K15_8 : T.keep 15 8 = [1, 39, 40, 41] := by kernel_rfl
theorem K16_3 : T.keep 16 3 = [1, 2, 5, 16, 17, 18] := by kernel_rfl
theorem K16_11 : T.keep 16 11 = [2, 5, 8] := by kernel_rfl
theorem K16_14 : T.keep 16 14 = [2, 5, 8, 55, 56, 57] := by kernel_rfl
theorem K18_4 : T.keep 18 4 = [0, 1, 5] := by kernel_rfl
theorem K19_4 : T.keep 19 4 = [0, 1, 5] := by kernel_rfl
theorem K21_6 : T.keep 21 6 = [1, 2, 5, 8] := by kernel_rfl
theorem K27_2 : T.keep 27 2 = [1, 7, 8, 9] := by kernel_rfl
theorem K29_3 : T.keep 29 3 = [2, 3, 5, 6, 17, 18, 19] := by kernel_rfl
theorem K36_3 : T.keep 36 3 = [0, 3, 4] := by kernel_rfl
theorem K37_2 : T.keep 37 2 = [0, 1, 2, 9, 10] := by kernel_rfl
theorem K44_4 : T.keep 44 4 = [0, 1, 5] := by kernel_rfl
theorem K45_2 : T.keep 45 2 = [0, 3] := by kernel_rfl
theorem K46_2 : T.keep 46 2 = [0, 1, 2, 7] := by kernel_rfl
theorem K47_3 : T.keep 47 3 = [0, 3, 4] := by kernel_rfl
theorem K47_8 : T.keep 47 8 = [0, 5] := by kernel_rfl
theorem K50_2 : T.keep 50 2 = [0, 5, 6] := by kernel_rfl
theorem K52_2 : T.keep 52 2 = [0, 3] := by kernel_rfl
theorem K53_2 : T.keep 53 2 = [1, 6, 7, 8] := by kernel_rfl
theorem K56_2 : T.keep 56 2 = [0, 3] := by kernel_rfl
theorem K59_4 : T.keep 59 4 = [0, 3] := by kernel_rfl
theorem K67_4 : T.keep 67 4 = [0, 3] := by kernel_rfl
theorem K70_2 : T.keep 70 2 = [0, 1, 7, 8] := by kernel_rfl
theorem K72_2 : T.keep 72 2 = [0, 3] := by kernel_rfl
theorem K78_2 : T.keep 78 2 = [0, 3] := by kernel_rfl
theorem K86_7 : T.keep 86 7 = [0, 3, 4] := by kernel_rfl
theorem K87_3 : T.keep 87 3 = [0, 3, 4] := by kernel_rfl
theorem K90_15 : T.keep 90 15 = [0, 1, 5, 6, 7, 8, 9, 10] := by kernel_rfl
theorem O5_6 : T.out 5 6 = [4] := by kernel_rfl
theorem O7_5 : T.out 7 5 = [3] := by kernel_rfl
theorem O9_5 : T.out 9 5 = [1, 4] := by kernel_rfl
theorem O11_4 : T.out 11 4 = [1, 2] := by kernel_rfl
theorem O11_9 : T.out 11 9 = [2] := by kernel_rfl
theorem O12_3 : T.out 12 3 = [1, 3] := by kernel_rfl
theorem O12_9 : T.out 12 9 = [3] := by kernel_rfl
theorem O12_12 : T.out 12 12 = [1, 3, 5] := by kernel_rfl
theorem O13_3 : T.out 13 3 = [3] := by kernel_rfl
theorem O14_3 : T.out 14 3 = [3] := by kernel_rfl
theorem O15_2 : T.out 15 2 = [1, 2] := by kernel_rfl
theorem O15_8 : T.out 15 8 = [1, 2] := by kernel_rfl
theorem O16_3 : T.out 16 3 = [2, 5] := by kernel_rfl
theorem O16_11 : T.out 16 11 = [5] := by kernel_rfl
theorem O16_14 : T.out 16 14 = [2, 5, 8] := by kernel_rfl
theorem O18_4 : T.out 18 4 = [4] := by kernel_rfl
theorem O19_4 : T.out 19 4 = [4] := by kernel_rfl
theorem O21_6 : T.out 21 6 = [4] := by kernel_rfl
theorem O27_2 : T.out 27 2 = [4] := by kernel_rfl
theorem O29_3 : T.out 29 3 = [3, 4, 5, 6] := by kernel_rfl
theorem O36_3 : T.out 36 3 = [3] := by kernel_rfl
theorem O37_2 : T.out 37 2 = [0, 1, 2, 6] := by kernel_rfl
theorem O44_4 : T.out 44 4 = [4] := by kernel_rfl
theorem O45_2 : T.out 45 2 = [0, 2] := by kernel_rfl
theorem O46_2 : T.out 46 2 = [0, 1, 6] := by kernel_rfl
theorem O47_3 : T.out 47 3 = [0, 2] := by kernel_rfl
theorem O47_8 : T.out 47 8 = [0, 2] := by kernel_rfl
theorem O50_2 : T.out 50 2 = [0, 2] := by kernel_rfl
theorem O52_2 : T.out 52 2 = [3] := by kernel_rfl
theorem O53_2 : T.out 53 2 = [1, 2] := by kernel_rfl
theorem O56_2 : T.out 56 2 = [3] := by kernel_rfl
theorem O59_4 : T.out 59 4 = [3] := by kernel_rfl
theorem O67_4 : T.out 67 4 = [3] := by kernel_rfl
theorem O70_2 : T.out 70 2 = [4] := by kernel_rfl
theorem O72_2 : T.out 72 2 = [2, 3] := by kernel_rfl
theorem O78_2 : T.out 78 2 = [3] := by kernel_rfl
theorem O86_7 : T.out 86 7 = [0, 3, 4] := by kernel_rfl
theorem O87_3 : T.out 87 3 = [2] := by kernel_rfl
theorem O90_15 : T.out 90 15 = [4] := by kernel_rfl
theorem G3 : T.fin 3 = true := by kernel_rfl
theorem N3 : T.on 3 = true := by kernel_rfl
theorem G4 : T.fin 4 = true := by kernel_rfl
theorem H4 : T.lend 4 = false := by kernel_rfl
theorem N4 : T.on 4 = true := by kernel_rfl
theorem Y4 : hasBody Try.prog 4 = true := by kernel_rfl
theorem G5 : T.fin 5 = true := by kernel_rfl
theorem H5 : T.lend 5 = false := by kernel_rfl
theorem N5 : T.on 5 = true := by kernel_rfl
theorem Y5 : hasBody Try.prog 5 = true := by kernel_rfl
theorem G6 : T.fin 6 = true := by kernel_rfl
theorem H6 : T.lend 6 = false := by kernel_rfl
theorem N6 : T.on 6 = true := by kernel_rfl
theorem Y6 : hasBody Try.prog 6 = true := by kernel_rfl
theorem G7 : T.fin 7 = true := by kernel_rfl
theorem H7 : T.lend 7 = false := by kernel_rfl
theorem N7 : T.on 7 = true := by kernel_rfl
theorem Y7 : hasBody Try.prog 7 = true := by kernel_rfl
theorem G8 : T.fin 8 = true := by kernel_rfl
theorem H8 : T.lend 8 = false := by kernel_rfl
theorem N8 : T.on 8 = true := by kernel_rfl
theorem Y8 : hasBody Try.prog 8 = true := by kernel_rfl
theorem G9 : T.fin 9 = true := by kernel_rfl
theorem H9 : T.lend 9 = false := by kernel_rfl
theorem N9 : T.on 9 = true := by kernel_rfl
theorem Y9 : hasBody Try.prog 9 = true := by kernel_rfl
theorem G10 : T.fin 10 = true := by kernel_rfl
theorem H10 : T.lend 10 = false := by kernel_rfl
theorem N10 : T.on 10 = true := by kernel_rfl
theorem Y10 : hasBody Try.prog 10 = true := by kernel_rfl
theorem G11 : T.fin 11 = true := by kernel_rfl
theorem H11 : T.lend 11 = false := by kernel_rfl
theorem N11 : T.on 11 = true := by kernel_rfl
theorem Y11 : hasBody Try.prog 11 = true := by kernel_rfl
theorem G12 : T.fin 12 = true := by kernel_rfl
theorem H12 : T.lend 12 = false := by kernel_rfl
theorem N12 : T.on 12 = true := by kernel_rfl
theorem Y12 : hasBody Try.prog 12 = true := by kernel_rfl
theorem G13 : T.fin 13 = true := by kernel_rfl
theorem H13 : T.lend 13 = false := by kernel_rfl
theorem N13 : T.on 13 = true := by kernel_rfl
theorem Y13 : hasBody Try.prog 13 = true := by kernel_rfl
theorem G14 : T.fin 14 = true := by kernel_rfl
theorem H14 : T.lend 14 = false := by kernel_rfl
theorem N14 : T.on 14 = true := by kernel_rfl
theorem Y14 : hasBody Try.prog 14 = true := by kernel_rfl
theorem G15 : T.fin 15 = true := by kernel_rfl
theorem H15 : T.lend 15 = false := by kernel_rfl
theorem N15 : T.on 15 = true := by kernel_rfl
theorem Y15 : hasBody Try.prog 15 = true := by kernel_rfl
theorem G16 : T.fin 16 = true := by kernel_rfl
theorem H16 : T.lend 16 = false := by kernel_rfl
theorem N16 : T.on 16 = true := by kernel_rfl
theorem Y16 : hasBody Try.prog 16 = true := by kernel_rfl
theorem G17 : T.fin 17 = true := by kernel_rfl
theorem H17 : T.lend 17 = false := by kernel_rfl
theorem N17 : T.on 17 = true := by kernel_rfl
theorem Y17 : hasBody Try.prog 17 = true := by kernel_rfl
theorem G18 : T.fin 18 = true := by kernel_rfl
theorem H18 : T.lend 18 = false := by kernel_rfl
theorem N18 : T.on 18 = true := by kernel_rfl
theorem Y18 : hasBody Try.prog 18 = true := by kernel_rfl
theorem G19 : T.fin 19 = true := by kernel_rfl
theorem H19 : T.lend 19 = false := by kernel_rfl
theorem N19 : T.on 19 = true := by kernel_rfl
theorem Y19 : hasBody Try.prog 19 = true := by kernel_rfl
theorem G20 : T.fin 20 = true := by kernel_rfl
theorem H20 : T.lend 20 = false := by kernel_rfl
theorem N20 : T.on 20 = true := by kernel_rfl
theorem Y20 : hasBody Try.prog 20 = true := by kernel_rfl
theorem G21 : T.fin 21 = true := by kernel_rfl
theorem H21 : T.lend 21 = false := by kernel_rfl
theorem N21 : T.on 21 = true := by kernel_rfl
theorem Y21 : hasBody Try.prog 21 = true := by kernel_rfl
theorem G22 : T.fin 22 = true := by kernel_rfl
theorem H22 : T.lend 22 = false := by kernel_rfl
theorem N22 : T.on 22 = true := by kernel_rfl
theorem Y22 : hasBody Try.prog 22 = true := by kernel_rfl
theorem G23 : T.fin 23 = true := by kernel_rfl
theorem H23 : T.lend 23 = false := by kernel_rfl
theorem N23 : T.on 23 = true := by kernel_rfl
theorem Y23 : hasBody Try.prog 23 = true := by kernel_rfl
theorem G24 : T.fin 24 = true := by kernel_rfl
theorem H24 : T.lend 24 = false := by kernel_rfl
theorem N24 : T.on 24 = true := by kernel_rfl
theorem Y24 : hasBody Try.prog 24 = true := by kernel_rfl
theorem G25 : T.fin 25 = true := by kernel_rfl
theorem H25 : T.lend 25 = false := by kernel_rfl
theorem N25 : T.on 25 = true := by kernel_rfl
theorem Y25 : hasBody Try.prog 25 = true := by kernel_rfl
theorem G26 : T.fin 26 = true := by kernel_rfl
theorem H26 : T.lend 26 = false := by kernel_rfl
theorem N26 : T.on 26 = true := by kernel_rfl
theorem Y26 : hasBody Try.prog 26 = true := by kernel_rfl
theorem G27 : T.fin 27 = true := by kernel_rfl
theorem H27 : T.lend 27 = false := by kernel_rfl
theorem N27 : T.on 27 = true := by kernel_rfl
theorem Y27 : hasBody Try.prog 27 = true := by kernel_rfl
theorem G28 : T.fin 28 = true := by kernel_rfl
theorem H28 : T.lend 28 = false := by kernel_rfl
theorem N28 : T.on 28 = true := by kernel_rfl
theorem Y28 : hasBody Try.prog 28 = true := by kernel_rfl
theorem G29 : T.fin 29 = true := by kernel_rfl
theorem H29 : T.lend 29 = false := by kernel_rfl
theorem N29 : T.on 29 = true := by kernel_rfl
theorem Y29 : hasBody Try.prog 29 = true := by kernel_rfl
theorem G30 : T.fin 30 = true := by kernel_rfl
theorem H30 : T.lend 30 = false := by kernel_rfl
theorem N30 : T.on 30 = true := by kernel_rfl
theorem Y30 : hasBody Try.prog 30 = true := by kernel_rfl
theorem G31 : T.fin 31 = true := by kernel_rfl
theorem H31 : T.lend 31 = false := by kernel_rfl
theorem N31 : T.on 31 = true := by kernel_rfl
theorem Y31 : hasBody Try.prog 31 = true := by kernel_rfl
theorem G32 : T.fin 32 = true := by kernel_rfl
theorem H32 : T.lend 32 = false := by kernel_rfl
theorem N32 : T.on 32 = true := by kernel_rfl
theorem Y32 : hasBody Try.prog 32 = true := by kernel_rfl
theorem G33 : T.fin 33 = true := by kernel_rfl
theorem H33 : T.lend 33 = false := by kernel_rfl
theorem N33 : T.on 33 = true := by kernel_rfl
theorem Y33 : hasBody Try.prog 33 = true := by kernel_rfl
theorem G34 : T.fin 34 = true := by kernel_rfl
theorem H34 : T.lend 34 = false := by kernel_rfl
theorem N34 : T.on 34 = true := by kernel_rfl
theorem Y34 : hasBody Try.prog 34 = true := by kernel_rfl
theorem G35 : T.fin 35 = true := by kernel_rfl
theorem H35 : T.lend 35 = false := by kernel_rfl
theorem N35 : T.on 35 = true := by kernel_rfl
theorem Y35 : hasBody Try.prog 35 = true := by kernel_rfl
theorem G36 : T.fin 36 = true := by kernel_rfl
theorem H36 : T.lend 36 = false := by kernel_rfl
theorem N36 : T.on 36 = true := by kernel_rfl
theorem Y36 : hasBody Try.prog 36 = true := by kernel_rfl
theorem G37 : T.fin 37 = true := by kernel_rfl
theorem H37 : T.lend 37 = false := by kernel_rfl
theorem N37 : T.on 37 = true := by kernel_rfl
theorem Y37 : hasBody Try.prog 37 = true := by kernel_rfl
theorem G38 : T.fin 38 = true := by kernel_rfl
theorem H38 : T.lend 38 = false := by kernel_rfl
theorem N38 : T.on 38 = true := by kernel_rfl
theorem Y38 : hasBody Try.prog 38 = true := by kernel_rfl
theorem G39 : T.fin 39 = true := by kernel_rfl
theorem H39 : T.lend 39 = false := by kernel_rfl
theorem N39 : T.on 39 = true := by kernel_rfl
theorem Y39 : hasBody Try.prog 39 = true := by kernel_rfl
theorem G40 : T.fin 40 = true := by kernel_rfl
theorem H40 : T.lend 40 = false := by kernel_rfl
theorem N40 : T.on 40 = true := by kernel_rfl
theorem Y40 : hasBody Try.prog 40 = true := by kernel_rfl
theorem H41 : T.lend 41 = false := by kernel_rfl
theorem Y41 : hasBody Try.prog 41 = true := by kernel_rfl
theorem G42 : T.fin 42 = true := by kernel_rfl
theorem H42 : T.lend 42 = false := by kernel_rfl
theorem N42 : T.on 42 = true := by kernel_rfl
theorem Y42 : hasBody Try.prog 42 = true := by kernel_rfl
theorem G43 : T.fin 43 = true := by kernel_rfl
theorem H43 : T.lend 43 = false := by kernel_rfl
theorem N43 : T.on 43 = true := by kernel_rfl
theorem Y43 : hasBody Try.prog 43 = true := by kernel_rfl
theorem G44 : T.fin 44 = true := by kernel_rfl
theorem H44 : T.lend 44 = false := by kernel_rfl
theorem N44 : T.on 44 = true := by kernel_rfl
theorem Y44 : hasBody Try.prog 44 = true := by kernel_rfl
theorem G45 : T.fin 45 = true := by kernel_rfl
theorem H45 : T.lend 45 = false := by kernel_rfl
theorem N45 : T.on 45 = true := by kernel_rfl
theorem Y45 : hasBody Try.prog 45 = true := by kernel_rfl
theorem G46 : T.fin 46 = true := by kernel_rfl
theorem H46 : T.lend 46 = false := by kernel_rfl
theorem N46 : T.on 46 = true := by kernel_rfl
theorem Y46 : hasBody Try.prog 46 = true := by kernel_rfl
theorem G47 : T.fin 47 = true := by kernel_rfl
theorem H47 : T.lend 47 = false := by kernel_rfl
theorem N47 : T.on 47 = true := by kernel_rfl
theorem Y47 : hasBody Try.prog 47 = true := by kernel_rfl
theorem G48 : T.fin 48 = true := by kernel_rfl
theorem H48 : T.lend 48 = false := by kernel_rfl
theorem N48 : T.on 48 = true := by kernel_rfl
theorem Y48 : hasBody Try.prog 48 = true := by kernel_rfl
theorem G49 : T.fin 49 = true := by kernel_rfl
theorem H49 : T.lend 49 = false := by kernel_rfl
theorem N49 : T.on 49 = true := by kernel_rfl
theorem Y49 : hasBody Try.prog 49 = true := by kernel_rfl
theorem G50 : T.fin 50 = true := by kernel_rfl
theorem H50 : T.lend 50 = false := by kernel_rfl
theorem N50 : T.on 50 = true := by kernel_rfl
theorem Y50 : hasBody Try.prog 50 = true := by kernel_rfl
theorem G51 : T.fin 51 = true := by kernel_rfl
theorem H51 : T.lend 51 = false := by kernel_rfl
theorem N51 : T.on 51 = true := by kernel_rfl
theorem Y51 : hasBody Try.prog 51 = true := by kernel_rfl
theorem G52 : T.fin 52 = true := by kernel_rfl
theorem H52 : T.lend 52 = false := by kernel_rfl
theorem N52 : T.on 52 = true := by kernel_rfl
theorem Y52 : hasBody Try.prog 52 = true := by kernel_rfl
theorem G53 : T.fin 53 = true := by kernel_rfl
theorem H53 : T.lend 53 = false := by kernel_rfl
theorem N53 : T.on 53 = true := by kernel_rfl
theorem Y53 : hasBody Try.prog 53 = true := by kernel_rfl
theorem G55 : T.fin 55 = true := by kernel_rfl
theorem H55 : T.lend 55 = false := by kernel_rfl
theorem N55 : T.on 55 = true := by kernel_rfl
theorem Y55 : hasBody Try.prog 55 = true := by kernel_rfl
theorem G56 : T.fin 56 = true := by kernel_rfl
theorem H56 : T.lend 56 = false := by kernel_rfl
theorem N56 : T.on 56 = true := by kernel_rfl
theorem Y56 : hasBody Try.prog 56 = true := by kernel_rfl
theorem G57 : T.fin 57 = true := by kernel_rfl
theorem H57 : T.lend 57 = false := by kernel_rfl
theorem N57 : T.on 57 = true := by kernel_rfl
theorem Y57 : hasBody Try.prog 57 = true := by kernel_rfl
theorem G58 : T.fin 58 = true := by kernel_rfl
theorem H58 : T.lend 58 = false := by kernel_rfl
theorem N58 : T.on 58 = true := by kernel_rfl
theorem Y58 : hasBody Try.prog 58 = true := by kernel_rfl
theorem G59 : T.fin 59 = true := by kernel_rfl
theorem H59 : T.lend 59 = false := by kernel_rfl
theorem N59 : T.on 59 = true := by kernel_rfl
theorem Y59 : hasBody Try.prog 59 = true := by kernel_rfl
theorem G60 : T.fin 60 = true := by kernel_rfl
theorem H60 : T.lend 60 = false := by kernel_rfl
theorem N60 : T.on 60 = true := by kernel_rfl
theorem Y60 : hasBody Try.prog 60 = true := by kernel_rfl
theorem G61 : T.fin 61 = true := by kernel_rfl
theorem H61 : T.lend 61 = false := by kernel_rfl
theorem N61 : T.on 61 = true := by kernel_rfl
theorem Y61 : hasBody Try.prog 61 = true := by kernel_rfl
theorem G62 : T.fin 62 = true := by kernel_rfl
theorem H62 : T.lend 62 = false := by kernel_rfl
theorem N62 : T.on 62 = true := by kernel_rfl
theorem Y62 : hasBody Try.prog 62 = true := by kernel_rfl
theorem G67 : T.fin 67 = true := by kernel_rfl
theorem H67 : T.lend 67 = false := by kernel_rfl
theorem N67 : T.on 67 = true := by kernel_rfl
theorem Y67 : hasBody Try.prog 67 = true := by kernel_rfl
theorem G68 : T.fin 68 = true := by kernel_rfl
theorem H68 : T.lend 68 = false := by kernel_rfl
theorem N68 : T.on 68 = true := by kernel_rfl
theorem Y68 : hasBody Try.prog 68 = true := by kernel_rfl
theorem G69 : T.fin 69 = true := by kernel_rfl
theorem H69 : T.lend 69 = false := by kernel_rfl
theorem N69 : T.on 69 = true := by kernel_rfl
theorem Y69 : hasBody Try.prog 69 = true := by kernel_rfl
theorem G70 : T.fin 70 = true := by kernel_rfl
theorem H70 : T.lend 70 = false := by kernel_rfl
theorem N70 : T.on 70 = true := by kernel_rfl
theorem Y70 : hasBody Try.prog 70 = true := by kernel_rfl
theorem G71 : T.fin 71 = true := by kernel_rfl
theorem H71 : T.lend 71 = false := by kernel_rfl
theorem N71 : T.on 71 = true := by kernel_rfl
theorem Y71 : hasBody Try.prog 71 = true := by kernel_rfl
theorem G72 : T.fin 72 = true := by kernel_rfl
theorem H72 : T.lend 72 = false := by kernel_rfl
theorem N72 : T.on 72 = true := by kernel_rfl
theorem Y72 : hasBody Try.prog 72 = true := by kernel_rfl
theorem G73 : T.fin 73 = true := by kernel_rfl
theorem H73 : T.lend 73 = false := by kernel_rfl
theorem N73 : T.on 73 = true := by kernel_rfl
theorem Y73 : hasBody Try.prog 73 = true := by kernel_rfl
theorem G74 : T.fin 74 = true := by kernel_rfl
theorem H74 : T.lend 74 = false := by kernel_rfl
theorem N74 : T.on 74 = true := by kernel_rfl
theorem Y74 : hasBody Try.prog 74 = true := by kernel_rfl
theorem H76 : T.lend 76 = false := by kernel_rfl
theorem Y76 : hasBody Try.prog 76 = true := by kernel_rfl
theorem G78 : T.fin 78 = true := by kernel_rfl
theorem H78 : T.lend 78 = false := by kernel_rfl
theorem N78 : T.on 78 = true := by kernel_rfl
theorem Y78 : hasBody Try.prog 78 = true := by kernel_rfl
theorem G79 : T.fin 79 = true := by kernel_rfl
theorem H79 : T.lend 79 = false := by kernel_rfl
theorem N79 : T.on 79 = true := by kernel_rfl
theorem Y79 : hasBody Try.prog 79 = true := by kernel_rfl
theorem H80 : T.lend 80 = false := by kernel_rfl
theorem Y80 : hasBody Try.prog 80 = true := by kernel_rfl
theorem G81 : T.fin 81 = true := by kernel_rfl
theorem H81 : T.lend 81 = false := by kernel_rfl
theorem N81 : T.on 81 = true := by kernel_rfl
theorem Y81 : hasBody Try.prog 81 = true := by kernel_rfl
theorem G82 : T.fin 82 = true := by kernel_rfl
theorem H82 : T.lend 82 = false := by kernel_rfl
theorem N82 : T.on 82 = true := by kernel_rfl
theorem Y82 : hasBody Try.prog 82 = true := by kernel_rfl
theorem G83 : T.fin 83 = true := by kernel_rfl
theorem H83 : T.lend 83 = false := by kernel_rfl
theorem N83 : T.on 83 = true := by kernel_rfl
theorem Y83 : hasBody Try.prog 83 = true := by kernel_rfl
theorem G84 : T.fin 84 = true := by kernel_rfl
theorem H84 : T.lend 84 = false := by kernel_rfl
theorem N84 : T.on 84 = true := by kernel_rfl
theorem Y84 : hasBody Try.prog 84 = true := by kernel_rfl
theorem G86 : T.fin 86 = true := by kernel_rfl
theorem H86 : T.lend 86 = false := by kernel_rfl
theorem N86 : T.on 86 = true := by kernel_rfl
theorem Y86 : hasBody Try.prog 86 = true := by kernel_rfl
theorem G87 : T.fin 87 = true := by kernel_rfl
theorem H87 : T.lend 87 = false := by kernel_rfl
theorem N87 : T.on 87 = true := by kernel_rfl
theorem Y87 : hasBody Try.prog 87 = true := by kernel_rfl
theorem G88 : T.fin 88 = true := by kernel_rfl
theorem H88 : T.lend 88 = false := by kernel_rfl
theorem N88 : T.on 88 = true := by kernel_rfl
theorem Y88 : hasBody Try.prog 88 = true := by kernel_rfl
theorem G89 : T.fin 89 = true := by kernel_rfl
theorem H89 : T.lend 89 = false := by kernel_rfl
theorem N89 : T.on 89 = true := by kernel_rfl
theorem Y89 : hasBody Try.prog 89 = true := by kernel_rfl
theorem G90 : T.fin 90 = true := by kernel_rfl
theorem H90 : T.lend 90 = false := by kernel_rfl
theorem N90 : T.on 90 = true := by kernel_rfl
theorem Y90 : hasBody Try.prog 90 = true := by kernel_rfl
theorem H91 : T.lend 91 = false := by kernel_rfl
theorem Y91 : hasBody Try.prog 91 = true := by kernel_rfl
theorem I3 : Try.prog.info? 3 = some Try.t3 := by kernel_rfl
theorem S3 : Try.t3.size = 1 := rfl
theorem C3 : Try.prog.cellsOf 3 = 1 := by kernel_rfl
theorem A3 : isAggB Try.prog 3 = false := by kernel_rfl
theorem B3 : Try.prog.bytesOf 3 = 8 := by kernel_rfl
theorem Z3 : zeroCells Try.prog 3 = some [.d (.v (.int .i64 0))] := by kernel_rfl
theorem I4 : Try.prog.info? 4 = some Try.t4 := by kernel_rfl
theorem S4 : Try.t4.size = 1 := rfl
theorem C4 : Try.prog.cellsOf 4 = 1 := by kernel_rfl
theorem A4 : isAggB Try.prog 4 = false := by kernel_rfl
theorem B4 : Try.prog.bytesOf 4 = 1 := by kernel_rfl
theorem Z4 : zeroCells Try.prog 4 = some [.d (.v (.bool false))] := by kernel_rfl
theorem I5 : Try.prog.info? 5 = some Try.t5 := by kernel_rfl
theorem S5 : Try.t5.size = 1 := rfl
theorem C5 : Try.prog.cellsOf 5 = 1 := by kernel_rfl
theorem A5 : isAggB Try.prog 5 = false := by kernel_rfl
theorem B5 : Try.prog.bytesOf 5 = 1 := by kernel_rfl
theorem Z5 : zeroCells Try.prog 5 = some [.d (.v (.int .u8 0))] := by kernel_rfl
theorem I9 : Try.prog.info? 9 = some Try.t9 := by kernel_rfl
theorem S9 : Try.t9.size = 1 := rfl
theorem C9 : Try.prog.cellsOf 9 = 1 := by kernel_rfl
theorem A9 : isAggB Try.prog 9 = false := by kernel_rfl
theorem B9 : Try.prog.bytesOf 9 = 16 := by kernel_rfl
theorem Z9 : zeroCells Try.prog 9 = some [.d (.v (.string .empty))] := by kernel_rfl
theorem I22 : Try.prog.info? 22 = some Try.t22 := by kernel_rfl
theorem S22 : Try.t22.size = 1 := rfl
theorem C22 : Try.prog.cellsOf 22 = 1 := by kernel_rfl
theorem A22 : isAggB Try.prog 22 = false := by kernel_rfl
theorem E22 : elemT Try.prog 22 = some 49 := by kernel_rfl
theorem B22 : Try.prog.bytesOf 22 = 24 := by kernel_rfl
theorem Z22 : zeroCells Try.prog 22 = some [.d (.v (.slice none 0 0))] := by kernel_rfl
theorem I23 : Try.prog.info? 23 = some Try.t23 := by kernel_rfl
theorem S23 : Try.t23.size = 1 := rfl
theorem C23 : Try.prog.cellsOf 23 = 1 := by kernel_rfl
theorem A23 : isAggB Try.prog 23 = false := by kernel_rfl
theorem E23 : elemT Try.prog 23 = some 58 := by kernel_rfl
theorem B23 : Try.prog.bytesOf 23 = 24 := by kernel_rfl
theorem Z23 : zeroCells Try.prog 23 = some [.d (.v (.slice none 0 0))] := by kernel_rfl
theorem I25 : Try.prog.info? 25 = some Try.t25 := by kernel_rfl
theorem S25 : Try.t25.size = 2 := rfl
theorem C25 : Try.prog.cellsOf 25 = 2 := by kernel_rfl
theorem A25 : isAggB Try.prog 25 = true := by kernel_rfl
theorem B25 : Try.prog.bytesOf 25 = 48 := by kernel_rfl
theorem Z25 : zeroCells Try.prog 25 = some [.d (.v (.slice none 0 0)), .d (.v (.slice none 0 0))] := by kernel_rfl
theorem I28 : Try.prog.info? 28 = some Try.t28 := by kernel_rfl
theorem S28 : Try.t28.size = 1 := rfl
theorem C28 : Try.prog.cellsOf 28 = 1 := by kernel_rfl
theorem A28 : isAggB Try.prog 28 = false := by kernel_rfl
theorem E28 : elemT Try.prog 28 = some 54 := by kernel_rfl
theorem B28 : Try.prog.bytesOf 28 = 24 := by kernel_rfl
theorem Z28 : zeroCells Try.prog 28 = some [.d (.v (.slice none 0 0))] := by kernel_rfl
theorem I29 : Try.prog.info? 29 = some Try.t29 := by kernel_rfl
theorem S29 : Try.t29.size = 1 := rfl
theorem C29 : Try.prog.cellsOf 29 = 1 := by kernel_rfl
theorem A29 : isAggB Try.prog 29 = false := by kernel_rfl
theorem E29 : elemT Try.prog 29 = some 52 := by kernel_rfl
theorem B29 : Try.prog.bytesOf 29 = 24 := by kernel_rfl
theorem Z29 : zeroCells Try.prog 29 = some [.d (.v (.slice none 0 0))] := by kernel_rfl
theorem I31 : Try.prog.info? 31 = some Try.t31 := by kernel_rfl
theorem S31 : Try.t31.size = 2 := rfl
theorem C31 : Try.prog.cellsOf 31 = 2 := by kernel_rfl
theorem A31 : isAggB Try.prog 31 = true := by kernel_rfl
theorem B31 : Try.prog.bytesOf 31 = 48 := by kernel_rfl
theorem Z31 : zeroCells Try.prog 31 = some [.d (.v (.slice none 0 0)), .d (.v (.slice none 0 0))] := by kernel_rfl
theorem I38 : Try.prog.info? 38 = some Try.t38 := by kernel_rfl
theorem S38 : Try.t38.size = 1 := rfl
theorem C38 : Try.prog.cellsOf 38 = 1 := by kernel_rfl
theorem A38 : isAggB Try.prog 38 = false := by kernel_rfl
theorem E38 : elemT Try.prog 38 = some 4 := by kernel_rfl
theorem B38 : Try.prog.bytesOf 38 = 24 := by kernel_rfl
theorem Z38 : zeroCells Try.prog 38 = some [.d (.v (.slice none 0 0))] := by kernel_rfl
theorem I47 : Try.prog.info? 47 = some Try.t47 := by kernel_rfl
theorem S47 : Try.t47.size = 1 := rfl
theorem C47 : Try.prog.cellsOf 47 = 1 := by kernel_rfl
theorem A47 : isAggB Try.prog 47 = false := by kernel_rfl
theorem E47 : elemT Try.prog 47 = some 3 := by kernel_rfl
theorem B47 : Try.prog.bytesOf 47 = 24 := by kernel_rfl
theorem Z47 : zeroCells Try.prog 47 = some [.d (.v (.slice none 0 0))] := by kernel_rfl
theorem I49 : Try.prog.info? 49 = some Try.t49 := by kernel_rfl
theorem S49 : Try.t49.size = 3 := rfl
theorem C49 : Try.prog.cellsOf 49 = 3 := by kernel_rfl
theorem A49 : isAggB Try.prog 49 = true := by kernel_rfl
theorem B49 : Try.prog.bytesOf 49 = 48 := by kernel_rfl
theorem Z49 : zeroCells Try.prog 49 = some [.d (.v (.int .i64 0)), .d (.v (.string .empty)), .d (.v (.slice none 0 0))] := by kernel_rfl
theorem I52 : Try.prog.info? 52 = some Try.t52 := by kernel_rfl
theorem S52 : Try.t52.size = 3 := rfl
theorem C52 : Try.prog.cellsOf 52 = 3 := by kernel_rfl
theorem A52 : isAggB Try.prog 52 = true := by kernel_rfl
theorem B52 : Try.prog.bytesOf 52 = 24 := by kernel_rfl
theorem Z52 : zeroCells Try.prog 52 = some [.d (.v (.int .i64 0)), .d (.v (.int .i64 0)), .d (.v (.int .i64 0))] := by kernel_rfl
theorem I54 : Try.prog.info? 54 = some Try.t54 := by kernel_rfl
theorem S54 : Try.t54.size = 3 := rfl
theorem C54 : Try.prog.cellsOf 54 = 3 := by kernel_rfl
theorem A54 : isAggB Try.prog 54 = true := by kernel_rfl
theorem B54 : Try.prog.bytesOf 54 = 48 := by kernel_rfl
theorem Z54 : zeroCells Try.prog 54 = some [.d (.v (.int .i64 0)), .d (.v (.string .empty)), .d (.v (.slice none 0 0))] := by kernel_rfl
theorem I58 : Try.prog.info? 58 = some Try.t58 := by kernel_rfl
theorem S58 : Try.t58.size = 3 := rfl
theorem C58 : Try.prog.cellsOf 58 = 3 := by kernel_rfl
theorem A58 : isAggB Try.prog 58 = true := by kernel_rfl
theorem B58 : Try.prog.bytesOf 58 = 24 := by kernel_rfl
theorem Z58 : zeroCells Try.prog 58 = some [.d (.v (.int .i64 0)), .d (.v (.int .i64 0)), .d (.v (.int .i64 0))] := by kernel_rfl
theorem I71 : Try.prog.info? 71 = some Try.t71 := by kernel_rfl
theorem S71 : Try.t71.size = 1 := rfl
theorem C71 : Try.prog.cellsOf 71 = 1 := by kernel_rfl
theorem A71 : isAggB Try.prog 71 = false := by kernel_rfl
theorem E71 : elemT Try.prog 71 = some 92 := by kernel_rfl
theorem B71 : Try.prog.bytesOf 71 = 24 := by kernel_rfl
theorem Z71 : zeroCells Try.prog 71 = some [.d (.v (.slice none 0 0))] := by kernel_rfl
theorem I73 : Try.prog.info? 73 = some Try.t73 := by kernel_rfl
theorem S73 : Try.t73.size = 1 := rfl
theorem C73 : Try.prog.cellsOf 73 = 1 := by kernel_rfl
theorem A73 : isAggB Try.prog 73 = true := by kernel_rfl
theorem B73 : Try.prog.bytesOf 73 = 24 := by kernel_rfl
theorem Z73 : zeroCells Try.prog 73 = some [.d (.v (.slice none 0 0))] := by kernel_rfl
theorem I80 : Try.prog.info? 80 = some Try.t80 := by kernel_rfl
theorem S80 : Try.t80.size = 1 := rfl
theorem C80 : Try.prog.cellsOf 80 = 1 := by kernel_rfl
theorem A80 : isAggB Try.prog 80 = false := by kernel_rfl
theorem B80 : Try.prog.bytesOf 80 = 8 := by kernel_rfl
theorem Z80 : zeroCells Try.prog 80 = some [.d (.v (.pointer none))] := by kernel_rfl
theorem I82 : Try.prog.info? 82 = some Try.t82 := by kernel_rfl
theorem S82 : Try.t82.size = 3 := rfl
theorem C82 : Try.prog.cellsOf 82 = 3 := by kernel_rfl
theorem A82 : isAggB Try.prog 82 = true := by kernel_rfl
theorem B82 : Try.prog.bytesOf 82 = 48 := by kernel_rfl
theorem Z82 : zeroCells Try.prog 82 = some [.d (.v (.string .empty)), .d (.v (.slice none 0 0)), .d (.v (.bool false))] := by kernel_rfl
theorem I86 : Try.prog.info? 86 = some Try.t86 := by kernel_rfl
theorem S86 : Try.t86.size = 1 := rfl
theorem C86 : Try.prog.cellsOf 86 = 1 := by kernel_rfl
theorem A86 : isAggB Try.prog 86 = false := by kernel_rfl
theorem E86 : elemT Try.prog 86 = some 9 := by kernel_rfl
theorem B86 : Try.prog.bytesOf 86 = 24 := by kernel_rfl
theorem Z86 : zeroCells Try.prog 86 = some [.d (.v (.slice none 0 0))] := by kernel_rfl
theorem I87 : Try.prog.info? 87 = some Try.t87 := by kernel_rfl
theorem S87 : Try.t87.size = 1 := rfl
theorem C87 : Try.prog.cellsOf 87 = 1 := by kernel_rfl
theorem A87 : isAggB Try.prog 87 = false := by kernel_rfl
theorem B87 : Try.prog.bytesOf 87 = 8 := by kernel_rfl
theorem Z87 : zeroCells Try.prog 87 = some [.d (.v (.pointer none))] := by kernel_rfl
theorem I89 : Try.prog.info? 89 = some Try.t89 := by kernel_rfl
theorem S89 : Try.t89.size = 4 := rfl
theorem C89 : Try.prog.cellsOf 89 = 4 := by kernel_rfl
theorem A89 : isAggB Try.prog 89 = true := by kernel_rfl
theorem B89 : Try.prog.bytesOf 89 = 56 := by kernel_rfl
theorem Z89 : zeroCells Try.prog 89 = some [.d (.v (.string .empty)), .d (.v (.int .i64 0)), .d (.v (.bool false)), .d (.v (.slice none 0 0))] := by kernel_rfl
theorem I92 : Try.prog.info? 92 = some Try.t92 := by kernel_rfl
theorem S92 : Try.t92.size = 3 := rfl
theorem C92 : Try.prog.cellsOf 92 = 3 := by kernel_rfl
theorem A92 : isAggB Try.prog 92 = true := by kernel_rfl
theorem B92 : Try.prog.bytesOf 92 = 48 := by kernel_rfl
theorem Z92 : zeroCells Try.prog 92 = some [.d (.v (.int .i64 0)), .d (.v (.string .empty)), .d (.v (.slice none 0 0))] := by kernel_rfl
theorem I106 : Try.prog.info? 106 = some Try.t106 := by kernel_rfl
theorem S106 : Try.t106.size = 1 := rfl
theorem C106 : Try.prog.cellsOf 106 = 1 := by kernel_rfl
theorem A106 : isAggB Try.prog 106 = false := by kernel_rfl
theorem E106 : elemT Try.prog 106 = some 5 := by kernel_rfl
theorem B106 : Try.prog.bytesOf 106 = 24 := by kernel_rfl
theorem Z106 : zeroCells Try.prog 106 = some [.d (.v (.slice none 0 0))] := by kernel_rfl
theorem BE4 (x y : Operand) (a b : Bool) : pure1 Try.prog (do eqGuard .eql 4 x y (.bool a) (.bool b); binOp .eql 4 (.bool a) (.bool b)) = some (.one (.c (.d (.v (.bool (a == b)))))) := bin_beql 4 x y Try.underlying4 a b
theorem BN4 (x y : Operand) (a b : Bool) : pure1 Try.prog (do eqGuard .neq 4 x y (.bool a) (.bool b); binOp .neq 4 (.bool a) (.bool b)) = some (.one (.c (.d (.v (.bool (!(a == b))))))) := bin_bneq 4 x y Try.underlying4 a b
theorem LN9 (s : ByteArray) : pure1 Try.prog (Builtin.len_ #[9] 0 #[.string s]) = some (.one (.c (.d (.v (.int .i64 s.size))))) := len_str rfl Try.underlying9 s
theorem IX9 (l : List UInt8) (k : IntKind) (i : Int) (h : 0 ≤ i ∧ i.toNat < l.length) : pure1 Try.prog (Instr.index 9 (.string (B l)) (.int k i)) = some (.one (.c (.d (.v (.int .u8 (l[i.toNat]'h.2).toNat))))) := ix_B Try.underlying9 l k i h
theorem CV5_3 (k : IntKind) (n : Int) : pure1 Try.prog (convert 5 3 (.int k n)) = some (.one (.c (.d (.v (.int .i64 ((Go.IntKind.i64).wrap n)))))) := conv_int Try.underlying5 Try.underlying3 k n
theorem R3 : Try.f3.results.toList = [.tmp 2] := rfl
theorem M3 : Try.f3.ntmps = 27 := rfl
noncomputable def g3 : Func := Try.f3
theorem U3 : Try.f3.body = some (cq g3 []) := rfl
theorem R4 : Try.f4.results.toList = [.tmp 4] := rfl
theorem M4 : Try.f4.ntmps = 18 := rfl
noncomputable def g4 : Func := Try.f4
theorem U4 : Try.f4.body = some (cq g4 []) := rfl
theorem R5 : Try.f5.results.toList = [.tmp 2] := rfl
theorem M5 : Try.f5.ntmps = 24 := rfl
noncomputable def g5 : Func := Try.f5
theorem U5 : Try.f5.body = some (cq g5 []) := rfl
theorem R6 : Try.f6.results.toList = [.cell 2 31] := rfl
theorem M6 : Try.f6.ntmps = 13 := rfl
noncomputable def g6 : Func := Try.f6
theorem U6 : Try.f6.body = some (cq g6 []) := rfl
theorem R7 : Try.f7.results.toList = [.tmp 2] := rfl
theorem M7 : Try.f7.ntmps = 22 := rfl
noncomputable def g7 : Func := Try.f7
theorem U7 : Try.f7.body = some (cq g7 []) := rfl
theorem R8 : Try.f8.results.toList = [.tmp 4] := rfl
theorem M8 : Try.f8.ntmps = 17 := rfl
noncomputable def g8 : Func := Try.f8
theorem U8 : Try.f8.body = some (cq g8 []) := rfl
theorem R9 : Try.f9.results.toList = [.tmp 4] := rfl
theorem M9 : Try.f9.ntmps = 27 := rfl
noncomputable def g9 : Func := Try.f9
theorem U9 : Try.f9.body = some (cq g9 []) := rfl
theorem R10 : Try.f10.results.toList = [.tmp 4] := rfl
theorem M10 : Try.f10.ntmps = 12 := rfl
noncomputable def g10 : Func := Try.f10
theorem U10 : Try.f10.body = some (cq g10 []) := rfl
theorem R11 : Try.f11.results.toList = [.tmp 2] := rfl
theorem M11 : Try.f11.ntmps = 92 := rfl
noncomputable def g11 : Func := Try.f11
theorem U11 : Try.f11.body = some (cq g11 []) := rfl
theorem R12 : Try.f12.results.toList = [.tmp 2] := rfl
theorem M12 : Try.f12.ntmps = 78 := rfl
noncomputable def g12 : Func := Try.f12
theorem U12 : Try.f12.body = some (cq g12 []) := rfl
theorem R13 : Try.f13.results.toList = [.tmp 2] := rfl
theorem M13 : Try.f13.ntmps = 23 := rfl
noncomputable def g13 : Func := Try.f13
theorem U13 : Try.f13.body = some (cq g13 []) := rfl
theorem R14 : Try.f14.results.toList = [.tmp 2] := rfl
theorem M14 : Try.f14.ntmps = 23 := rfl
noncomputable def g14 : Func := Try.f14
theorem U14 : Try.f14.body = some (cq g14 []) := rfl
theorem R15 : Try.f15.results.toList = [.tmp 2] := rfl
theorem M15 : Try.f15.ntmps = 60 := rfl
noncomputable def g15 : Func := Try.f15
theorem U15 : Try.f15.body = some (cq g15 []) := rfl
theorem R16 : Try.f16.results.toList = [.tmp 4] := rfl
theorem M16 : Try.f16.ntmps = 76 := rfl
noncomputable def g16 : Func := Try.f16
theorem U16 : Try.f16.body = some (cq g16 []) := rfl
theorem R17 : Try.f17.results.toList = [.tmp 2] := rfl
theorem M17 : Try.f17.ntmps = 4 := rfl
noncomputable def g17 : Func := Try.f17
theorem U17 : Try.f17.body = some (cq g17 []) := rfl
theorem R18 : Try.f18.results.toList = [.tmp 4] := rfl
theorem M18 : Try.f18.ntmps = 27 := rfl
noncomputable def g18 : Func := Try.f18
theorem U18 : Try.f18.body = some (cq g18 []) := rfl
theorem R19 : Try.f19.results.toList = [.tmp 4] := rfl
theorem M19 : Try.f19.ntmps = 27 := rfl
noncomputable def g19 : Func := Try.f19
theorem U19 : Try.f19.body = some (cq g19 []) := rfl
theorem R20 : Try.f20.results.toList = [.tmp 4] := rfl
theorem M20 : Try.f20.ntmps = 19 := rfl
noncomputable def g20 : Func := Try.f20
theorem U20 : Try.f20.body = some (cq g20 []) := rfl
theorem R21 : Try.f21.results.toList = [.tmp 4] := rfl
theorem M21 : Try.f21.ntmps = 91 := rfl
noncomputable def g21 : Func := Try.f21
theorem U21 : Try.f21.body = some (cq g21 []) := rfl
theorem R22 : Try.f22.results.toList = [.tmp 6] := rfl
theorem M22 : Try.f22.ntmps = 15 := rfl
noncomputable def g22 : Func := Try.f22
theorem U22 : Try.f22.body = some (cq g22 []) := rfl
theorem R23 : Try.f23.results.toList = [.tmp 2] := rfl
theorem M23 : Try.f23.ntmps = 5 := rfl
noncomputable def g23 : Func := Try.f23
theorem U23 : Try.f23.body = some (cq g23 []) := rfl
theorem R24 : Try.f24.results.toList = [.cell 2 54] := rfl
theorem M24 : Try.f24.ntmps = 15 := rfl
noncomputable def g24 : Func := Try.f24
theorem U24 : Try.f24.body = some (cq g24 []) := rfl
theorem R25 : Try.f25.results.toList = [.cell 2 52] := rfl
theorem M25 : Try.f25.ntmps = 14 := rfl
noncomputable def g25 : Func := Try.f25
theorem U25 : Try.f25.body = some (cq g25 []) := rfl
theorem R26 : Try.f26.results.toList = [.tmp 6] := rfl
theorem M26 : Try.f26.ntmps = 15 := rfl
noncomputable def g26 : Func := Try.f26
theorem U26 : Try.f26.body = some (cq g26 []) := rfl
theorem R27 : Try.f27.results.toList = [.tmp 4] := rfl
theorem M27 : Try.f27.ntmps = 19 := rfl
noncomputable def g27 : Func := Try.f27
theorem U27 : Try.f27.body = some (cq g27 []) := rfl
theorem R28 : Try.f28.results.toList = [.tmp 2] := rfl
theorem M28 : Try.f28.ntmps = 46 := rfl
noncomputable def g28 : Func := Try.f28
theorem U28 : Try.f28.body = some (cq g28 []) := rfl
theorem R29 : Try.f29.results.toList = [.tmp 4] := rfl
theorem M29 : Try.f29.ntmps = 67 := rfl
noncomputable def g29 : Func := Try.f29
theorem U29 : Try.f29.body = some (cq g29 []) := rfl
theorem R30 : Try.f30.results.toList = [.tmp 4] := rfl
theorem M30 : Try.f30.ntmps = 54 := rfl
noncomputable def g30 : Func := Try.f30
theorem U30 : Try.f30.body = some (cq g30 []) := rfl
theorem R31 : Try.f31.results.toList = [.tmp 4] := rfl
theorem M31 : Try.f31.ntmps = 21 := rfl
noncomputable def g31 : Func := Try.f31
theorem U31 : Try.f31.body = some (cq g31 []) := rfl
theorem R32 : Try.f32.results.toList = [.tmp 4] := rfl
theorem M32 : Try.f32.ntmps = 20 := rfl
noncomputable def g32 : Func := Try.f32
theorem U32 : Try.f32.body = some (cq g32 []) := rfl
theorem R33 : Try.f33.results.toList = [.tmp 4] := rfl
theorem M33 : Try.f33.ntmps = 12 := rfl
noncomputable def g33 : Func := Try.f33
theorem U33 : Try.f33.body = some (cq g33 []) := rfl
theorem R34 : Try.f34.results.toList = [.tmp 2, .tmp 3] := rfl
theorem M34 : Try.f34.ntmps = 28 := rfl
noncomputable def g34 : Func := Try.f34
theorem U34 : Try.f34.body = some (cq g34 []) := rfl
theorem R35 : Try.f35.results.toList = [.tmp 2] := rfl
theorem M35 : Try.f35.ntmps = 45 := rfl
noncomputable def g35 : Func := Try.f35
theorem U35 : Try.f35.body = some (cq g35 []) := rfl
theorem R36 : Try.f36.results.toList = [.tmp 2] := rfl
theorem M36 : Try.f36.ntmps = 22 := rfl
noncomputable def g36 : Func := Try.f36
theorem U36 : Try.f36.body = some (cq g36 []) := rfl
theorem R37 : Try.f37.results.toList = [.tmp 6] := rfl
theorem M37 : Try.f37.ntmps = 24 := rfl
noncomputable def g37 : Func := Try.f37
theorem U37 : Try.f37.body = some (cq g37 []) := rfl
theorem R38 : Try.f38.results.toList = [.tmp 2] := rfl
theorem M38 : Try.f38.ntmps = 11 := rfl
noncomputable def g38 : Func := Try.f38
theorem U38 : Try.f38.body = some (cq g38 []) := rfl
theorem R39 : Try.f39.results.toList = [.tmp 2] := rfl
theorem M39 : Try.f39.ntmps = 10 := rfl
noncomputable def g39 : Func := Try.f39
theorem U39 : Try.f39.body = some (cq g39 []) := rfl
theorem R40 : Try.f40.results.toList = [.cell 2 73, .tmp 3] := rfl
theorem M40 : Try.f40.ntmps = 39 := rfl
noncomputable def g40 : Func := Try.f40
theorem U40 : Try.f40.body = some (cq g40 []) := rfl
theorem R42 : Try.f42.results.toList = [.tmp 2, .tmp 3] := rfl
theorem M42 : Try.f42.ntmps = 24 := rfl
noncomputable def g42 : Func := Try.f42
theorem U42 : Try.f42.body = some (cq g42 []) := rfl
theorem R43 : Try.f43.results.toList = [.tmp 2] := rfl
theorem M43 : Try.f43.ntmps = 5 := rfl
noncomputable def g43 : Func := Try.f43
theorem U43 : Try.f43.body = some (cq g43 []) := rfl
theorem R44 : Try.f44.results.toList = [.tmp 4] := rfl
theorem M44 : Try.f44.ntmps = 26 := rfl
noncomputable def g44 : Func := Try.f44
theorem U44 : Try.f44.body = some (cq g44 []) := rfl
theorem R45 : Try.f45.results.toList = [.tmp 2] := rfl
theorem M45 : Try.f45.ntmps = 23 := rfl
noncomputable def g45 : Func := Try.f45
theorem U45 : Try.f45.body = some (cq g45 []) := rfl
theorem R46 : Try.f46.results.toList = [.tmp 6] := rfl
theorem M46 : Try.f46.ntmps = 29 := rfl
noncomputable def g46 : Func := Try.f46
theorem U46 : Try.f46.body = some (cq g46 []) := rfl
theorem R47 : Try.f47.results.toList = [.tmp 2] := rfl
theorem M47 : Try.f47.ntmps = 33 := rfl
noncomputable def g47 : Func := Try.f47
theorem U47 : Try.f47.body = some (cq g47 []) := rfl
theorem R48 : Try.f48.results.toList = [.cell 2 73, .tmp 3] := rfl
theorem M48 : Try.f48.ntmps = 34 := rfl
noncomputable def g48 : Func := Try.f48
theorem U48 : Try.f48.body = some (cq g48 []) := rfl
theorem R49 : Try.f49.results.toList = [.tmp 2] := rfl
theorem M49 : Try.f49.ntmps = 6 := rfl
noncomputable def g49 : Func := Try.f49
theorem U49 : Try.f49.body = some (cq g49 []) := rfl
theorem R50 : Try.f50.results.toList = [.tmp 2] := rfl
theorem M50 : Try.f50.ntmps = 18 := rfl
noncomputable def g50 : Func := Try.f50
theorem U50 : Try.f50.body = some (cq g50 []) := rfl
theorem R51 : Try.f51.results.toList = [.tmp 2] := rfl
theorem M51 : Try.f51.ntmps = 6 := rfl
noncomputable def g51 : Func := Try.f51
theorem U51 : Try.f51.body = some (cq g51 []) := rfl
theorem R52 : Try.f52.results.toList = [.tmp 2] := rfl
theorem M52 : Try.f52.ntmps = 24 := rfl
noncomputable def g52 : Func := Try.f52
theorem U52 : Try.f52.body = some (cq g52 []) := rfl
theorem R53 : Try.f53.results.toList = [.tmp 2] := rfl
theorem M53 : Try.f53.ntmps = 22 := rfl
noncomputable def g53 : Func := Try.f53
theorem U53 : Try.f53.body = some (cq g53 []) := rfl
theorem R55 : Try.f55.results.toList = [.tmp 2] := rfl
theorem M55 : Try.f55.ntmps = 17 := rfl
noncomputable def g55 : Func := Try.f55
theorem U55 : Try.f55.body = some (cq g55 []) := rfl
theorem R56 : Try.f56.results.toList = [.tmp 2] := rfl
theorem M56 : Try.f56.ntmps = 26 := rfl
noncomputable def g56 : Func := Try.f56
theorem U56 : Try.f56.body = some (cq g56 []) := rfl
theorem R57 : Try.f57.results.toList = [.tmp 2] := rfl
theorem M57 : Try.f57.ntmps = 11 := rfl
noncomputable def g57 : Func := Try.f57
theorem U57 : Try.f57.body = some (cq g57 []) := rfl
theorem R58 : Try.f58.results.toList = [.tmp 4] := rfl
theorem M58 : Try.f58.ntmps = 9 := rfl
noncomputable def g58 : Func := Try.f58
theorem U58 : Try.f58.body = some (cq g58 []) := rfl
theorem R59 : Try.f59.results.toList = [.tmp 2] := rfl
theorem M59 : Try.f59.ntmps = 52 := rfl
noncomputable def g59 : Func := Try.f59
theorem U59 : Try.f59.body = some (cq g59 []) := rfl
theorem R60 : Try.f60.results.toList = [.tmp 4] := rfl
theorem M60 : Try.f60.ntmps = 19 := rfl
noncomputable def g60 : Func := Try.f60
theorem U60 : Try.f60.body = some (cq g60 []) := rfl
theorem R61 : Try.f61.results.toList = [.tmp 8] := rfl
theorem M61 : Try.f61.ntmps = 32 := rfl
noncomputable def g61 : Func := Try.f61
theorem U61 : Try.f61.body = some (cq g61 []) := rfl
theorem R62 : Try.f62.results.toList = [.tmp 4] := rfl
theorem M62 : Try.f62.ntmps = 53 := rfl
noncomputable def g62 : Func := Try.f62
theorem U62 : Try.f62.body = some (cq g62 []) := rfl
theorem R67 : Try.f67.results.toList = [.tmp 2] := rfl
theorem M67 : Try.f67.ntmps = 94 := rfl
noncomputable def g67 : Func := Try.f67
theorem U67 : Try.f67.body = some (cq g67 []) := rfl
theorem R68 : Try.f68.results.toList = [.tmp 4] := rfl
theorem M68 : Try.f68.ntmps = 35 := rfl
noncomputable def g68 : Func := Try.f68
theorem U68 : Try.f68.body = some (cq g68 []) := rfl
theorem R69 : Try.f69.results.toList = [.tmp 4] := rfl
theorem M69 : Try.f69.ntmps = 30 := rfl
noncomputable def g69 : Func := Try.f69
theorem U69 : Try.f69.body = some (cq g69 []) := rfl
theorem R70 : Try.f70.results.toList = [.tmp 4] := rfl
theorem M70 : Try.f70.ntmps = 19 := rfl
noncomputable def g70 : Func := Try.f70
theorem U70 : Try.f70.body = some (cq g70 []) := rfl
theorem R71 : Try.f71.results.toList = [.tmp 4] := rfl
theorem M71 : Try.f71.ntmps = 19 := rfl
noncomputable def g71 : Func := Try.f71
theorem U71 : Try.f71.body = some (cq g71 []) := rfl
theorem R72 : Try.f72.results.toList = [.tmp 2] := rfl
theorem M72 : Try.f72.ntmps = 34 := rfl
noncomputable def g72 : Func := Try.f72
theorem U72 : Try.f72.body = some (cq g72 []) := rfl
theorem R73 : Try.f73.results.toList = [.tmp 2] := rfl
theorem M73 : Try.f73.ntmps = 6 := rfl
noncomputable def g73 : Func := Try.f73
theorem U73 : Try.f73.body = some (cq g73 []) := rfl
theorem R74 : Try.f74.results.toList = [.tmp 4] := rfl
theorem M74 : Try.f74.ntmps = 8 := rfl
noncomputable def g74 : Func := Try.f74
theorem U74 : Try.f74.body = some (cq g74 []) := rfl
theorem R78 : Try.f78.results.toList = [.tmp 2] := rfl
theorem M78 : Try.f78.ntmps = 52 := rfl
noncomputable def g78 : Func := Try.f78
theorem U78 : Try.f78.body = some (cq g78 []) := rfl
theorem R79 : Try.f79.results.toList = [.tmp 2] := rfl
theorem M79 : Try.f79.ntmps = 30 := rfl
noncomputable def g79 : Func := Try.f79
theorem U79 : Try.f79.body = some (cq g79 []) := rfl
theorem R81 : Try.f81.results.toList = [.tmp 2] := rfl
theorem M81 : Try.f81.ntmps = 168 := rfl
noncomputable def g81 : Func := Try.f81
theorem U81 : Try.f81.body = some (cq g81 []) := rfl
theorem R82 : Try.f82.results.toList = [.tmp 2] := rfl
theorem M82 : Try.f82.ntmps = 37 := rfl
noncomputable def g82 : Func := Try.f82
theorem U82 : Try.f82.body = some (cq g82 []) := rfl
theorem R83 : Try.f83.results.toList = [.tmp 2] := rfl
theorem M83 : Try.f83.ntmps = 13 := rfl
noncomputable def g83 : Func := Try.f83
theorem U83 : Try.f83.body = some (cq g83 []) := rfl
theorem R84 : Try.f84.results.toList = [.tmp 2] := rfl
theorem M84 : Try.f84.ntmps = 42 := rfl
noncomputable def g84 : Func := Try.f84
theorem U84 : Try.f84.body = some (cq g84 []) := rfl
theorem R86 : Try.f86.results.toList = [.tmp 2] := rfl
theorem M86 : Try.f86.ntmps = 102 := rfl
noncomputable def g86 : Func := Try.f86
theorem U86 : Try.f86.body = some (cq g86 []) := rfl
theorem R87 : Try.f87.results.toList = [.tmp 2] := rfl
theorem M87 : Try.f87.ntmps = 16 := rfl
noncomputable def g87 : Func := Try.f87
theorem U87 : Try.f87.body = some (cq g87 []) := rfl
theorem R88 : Try.f88.results.toList = [.tmp 4, .tmp 5, .tmp 6] := rfl
theorem M88 : Try.f88.ntmps = 13 := rfl
noncomputable def g88 : Func := Try.f88
theorem U88 : Try.f88.body = some (cq g88 []) := rfl
theorem R89 : Try.f89.results.toList = [.tmp 4, .tmp 5, .tmp 6] := rfl
theorem M89 : Try.f89.ntmps = 23 := rfl
noncomputable def g89 : Func := Try.f89
theorem U89 : Try.f89.body = some (cq g89 []) := rfl
theorem R90 : Try.f90.results.toList = [.tmp 4] := rfl
theorem M90 : Try.f90.ntmps = 143 := rfl
noncomputable def g90 : Func := Try.f90
theorem U90 : Try.f90.body = some (cq g90 []) := rfl
abbrev QS (n : FuncId) (g : Func) (p : List Nat) : Prop := ∀ {call : Call} {α : Type} {F : Ex → St → Option α} {ks : List Kt} {st : St}, runK Try.prog T call n F (cq g p) st ks = runK Try.prog T call n F (cq g (0 :: p)) st (.seq (cq g (1 :: p)) :: ks)
theorem qS {n : FuncId} {g : Func} {p : List Nat} (h : cq g p = .seq (cq g (0 :: p)) (cq g (1 :: p))) : QS n g p := run_seq h
abbrev QB (n : FuncId) (g : Func) (p : List Nat) (i : Nat) : Prop := ∀ {call : Call} {α : Type} {F : Ex → St → Option α} {ks : List Kt} {st : St}, runK Try.prog T call n F (cq g p) st ks = runK Try.prog T call n F (cq g (0 :: p)) st (.blk i :: ks)
theorem qB {n : FuncId} {g : Func} {p : List Nat} {i : Nat} (h : cq g p = .block i (cq g (0 :: p))) : QB n g p i := run_block h
abbrev QC (n : FuncId) (g : Func) (p : List Nat) (i : Nat) : Prop := ∀ {call : Call} {α : Type} {F : Ex → St → Option α} {ks : List Kt} {st : St}, runK Try.prog T call n F (cq g p) st ks = condK Try.prog T call n F (cq g (0 :: p)) (cq g (1 :: p)) st ks (evA st.tm (.tmp i))
theorem qC {n : FuncId} {g : Func} {p : List Nat} {i : Nat} (h : cq g p = .cond (.tmp i) (cq g (0 :: p)) (cq g (1 :: p))) : QC n g p i := run_cond h
abbrev QL (n : FuncId) (g : Func) (p : List Nat) (k : Nat) : Prop := (∀ {call : Call} {α : Type} {F : Ex → St → Option α} {ks : List Kt} {st : St}, runK Try.prog T call n F (cq g p) st ks = lopK Try.prog T call n F ks (loopC Try.prog T call n (cq g (0 :: p)) (canon (T.keep n k) st))) ∧
  (∀ {call : Call} {st : St}, contF Try.prog T call n (cq g (0 :: p)) .normal st = loopC Try.prog T call n (cq g (0 :: p)) (canon (T.keep n k) st)) ∧
  (∀ {call : Call} {st : St} {i : Nat}, contF Try.prog T call n (cq g (0 :: p)) (.exit i) st = some (.exit i, canon (T.out n k) st)) ∧
  (∀ {call : Call} {st : St}, contF Try.prog T call n (cq g (0 :: p)) .ret st = some (.ret, canon (T.out n k) st))
theorem qL {n : FuncId} {g : Func} {p : List Nat} {k : Nat} (h : cq g p = .loop (cq g (0 :: p))) (hk : firstReg (cq g (0 :: p)) = k) : QL n g p k := ⟨run_loop h hk, cont_normal hk, cont_exit hk, cont_ret hk⟩
abbrev QD (n : FuncId) (g : Func) (p : List Nat) (m : Nat) : Prop := ∀ {call : Call} {α : Type} {F : Ex → St → Option α} {ks : List Kt} {st : St}, runK Try.prog T call n F (cq g p) st ks = drwK Try.prog T call n F (opsOf (cq g p)) (List.range m) m st ks (drawGo Try.prog T.lend call (opsOf (cq g p)) st.next (List.range m) st.tm st.h [])
theorem qD {n : FuncId} {g : Func} {p : List Nat} {m : Nat} {id : Nat} {ops : Array Oper} (h : cq g p = .region id ops true) (hn : (opsOf (cq g p)).length = m) : QD n g p m := run_draw h (frzT _ _) (ordT _ _) (by rw [← hn, h]; rfl)
abbrev QR (n : FuncId) (g : Func) (p : List Nat) (m : Nat) : Prop := ∀ {call : Call} {α : Type} {F : Ex → St → Option α} {ks : List Kt} {st : St}, runK Try.prog T call n F (cq g p) st ks = regK Try.prog T call n F m st ks (opsA Try.prog T.lend call (opsOf (cq g p)) st.next 0 (opsOf (cq g p)) st.tm st.h)
theorem qR {n : FuncId} {g : Func} {p : List Nat} {m : Nat} {id : Nat} {ops : Array Oper} (h : cq g p = .region id ops false) (hn : (opsOf (cq g p)).length = m) : QR n g p m := by
  intro call α F ks st
  rw [run_region h (frzT _ _), hn]
abbrev QK (n : FuncId) (g : Func) (p : List Nat) : Prop := ∀ {call : Call} {α : Type} {F : Ex → St → Option α} {ks : List Kt} {st : St}, runK Try.prog T call n F (cq g p) st ks = popK Try.prog T call n F ks .normal st
theorem qK {n : FuncId} {g : Func} {p : List Nat} (h : cq g p = .skip) : QK n g p := run_skip h
abbrev QT (n : FuncId) (g : Func) (p : List Nat) : Prop := ∀ {call : Call} {α : Type} {F : Ex → St → Option α} {ks : List Kt} {st : St}, runK Try.prog T call n F (cq g p) st ks = popK Try.prog T call n F ks .ret st
theorem qT {n : FuncId} {g : Func} {p : List Nat} (h : cq g p = .ret) : QT n g p := run_ret h
abbrev QX (n : FuncId) (g : Func) (p : List Nat) (i : Nat) : Prop := ∀ {call : Call} {α : Type} {F : Ex → St → Option α} {ks : List Kt} {st : St}, runK Try.prog T call n F (cq g p) st ks = popK Try.prog T call n F ks (.exit i) st
theorem qX {n : FuncId} {g : Func} {p : List Nat} {i : Nat} (h : cq g p = .exit i) : QX n g p i := run_exit h
theorem q3_ : QS 3 g3 [] := qS rfl
theorem q3_0 : QR 3 g3 [0] 2 := qR rfl rfl
theorem q3_1 : QS 3 g3 [1] := qS rfl
theorem q3_10 : QR 3 g3 [0, 1] 1 := qR rfl rfl
theorem q3_11 : QS 3 g3 [1, 1] := qS rfl
theorem q3_110 : QR 3 g3 [0, 1, 1] 4 := qR rfl rfl
theorem q3_111 : QS 3 g3 [1, 1, 1] := qS rfl
theorem q3_1110 : QS 3 g3 [0, 1, 1, 1] := qS rfl
theorem q3_11100 : QR 3 g3 [0, 0, 1, 1, 1] 2 := qR rfl rfl
theorem q3_11101 : QC 3 g3 [1, 0, 1, 1, 1] 11 := qC rfl
theorem q3_111010 : QS 3 g3 [0, 1, 0, 1, 1, 1] := qS rfl
theorem q3_1110100 : QR 3 g3 [0, 0, 1, 0, 1, 1, 1] 1 := qR rfl rfl
theorem q3_1110101 : QT 3 g3 [1, 0, 1, 0, 1, 1, 1] := qT rfl
theorem q3_111011 : QK 3 g3 [1, 1, 0, 1, 1, 1] := qK rfl
theorem q3_1111 : QS 3 g3 [1, 1, 1, 1] := qS rfl
theorem q3_11110 : QR 3 g3 [0, 1, 1, 1, 1] 4 := qR rfl rfl
theorem q3_11111 : QS 3 g3 [1, 1, 1, 1, 1] := qS rfl
theorem q3_111110 : QR 3 g3 [0, 1, 1, 1, 1, 1] 4 := qR rfl rfl
theorem q3_111111 : QS 3 g3 [1, 1, 1, 1, 1, 1] := qS rfl
theorem q3_1111110 : QR 3 g3 [0, 1, 1, 1, 1, 1, 1] 3 := qR rfl rfl
theorem q3_1111111 : QS 3 g3 [1, 1, 1, 1, 1, 1, 1] := qS rfl
theorem q3_11111110 : QS 3 g3 [0, 1, 1, 1, 1, 1, 1, 1] := qS rfl
theorem q3_111111100 : QR 3 g3 [0, 0, 1, 1, 1, 1, 1, 1, 1] 3 := qR rfl rfl
theorem q3_111111101 : QC 3 g3 [1, 0, 1, 1, 1, 1, 1, 1, 1] 21 := qC rfl
theorem q3_1111111010 : QS 3 g3 [0, 1, 0, 1, 1, 1, 1, 1, 1, 1] := qS rfl
theorem q3_11111110100 : QR 3 g3 [0, 0, 1, 0, 1, 1, 1, 1, 1, 1, 1] 1 := qR rfl rfl
theorem q3_11111110101 : QT 3 g3 [1, 0, 1, 0, 1, 1, 1, 1, 1, 1, 1] := qT rfl
theorem q3_1111111011 : QK 3 g3 [1, 1, 0, 1, 1, 1, 1, 1, 1, 1] := qK rfl
theorem q3_11111111 : QS 3 g3 [1, 1, 1, 1, 1, 1, 1, 1] := qS rfl
theorem q3_111111110 : QS 3 g3 [0, 1, 1, 1, 1, 1, 1, 1, 1] := qS rfl
theorem q3_1111111100 : QD 3 g3 [0, 0, 1, 1, 1, 1, 1, 1, 1, 1] 5 := qD rfl rfl
theorem q3_1111111101 : QC 3 g3 [1, 0, 1, 1, 1, 1, 1, 1, 1, 1] 26 := qC rfl
theorem q3_11111111010 : QS 3 g3 [0, 1, 0, 1, 1, 1, 1, 1, 1, 1, 1] := qS rfl
theorem q3_111111110100 : QR 3 g3 [0, 0, 1, 0, 1, 1, 1, 1, 1, 1, 1, 1] 1 := qR rfl rfl
theorem q3_111111110101 : QT 3 g3 [1, 0, 1, 0, 1, 1, 1, 1, 1, 1, 1, 1] := qT rfl
theorem q3_11111111011 : QK 3 g3 [1, 1, 0, 1, 1, 1, 1, 1, 1, 1, 1] := qK rfl
theorem q3_111111111 : QS 3 g3 [1, 1, 1, 1, 1, 1, 1, 1, 1] := qS rfl
theorem q3_1111111110 : QR 3 g3 [0, 1, 1, 1, 1, 1, 1, 1, 1, 1] 1 := qR rfl rfl
theorem q3_1111111111 : QT 3 g3 [1, 1, 1, 1, 1, 1, 1, 1, 1, 1] := qT rfl
theorem q4_ : QS 4 g4 [] := qS rfl
theorem q4_0 : QR 4 g4 [0] 2 := qR rfl rfl
theorem q4_1 : QS 4 g4 [1] := qS rfl
theorem q4_10 : QR 4 g4 [0, 1] 5 := qR rfl rfl
theorem q4_11 : QS 4 g4 [1, 1] := qS rfl
theorem q4_110 : QS 4 g4 [0, 1, 1] := qS rfl
theorem q4_1100 : QR 4 g4 [0, 0, 1, 1] 2 := qR rfl rfl
theorem q4_1101 : QC 4 g4 [1, 0, 1, 1] 10 := qC rfl
theorem q4_11010 : QS 4 g4 [0, 1, 0, 1, 1] := qS rfl
theorem q4_110100 : QR 4 g4 [0, 0, 1, 0, 1, 1] 1 := qR rfl rfl
theorem q4_110101 : QT 4 g4 [1, 0, 1, 0, 1, 1] := qT rfl
theorem q4_11011 : QK 4 g4 [1, 1, 0, 1, 1] := qK rfl
theorem q4_111 : QS 4 g4 [1, 1, 1] := qS rfl
theorem q4_1110 : QR 4 g4 [0, 1, 1, 1] 5 := qR rfl rfl
theorem q4_1111 : QS 4 g4 [1, 1, 1, 1] := qS rfl
theorem q4_11110 : QS 4 g4 [0, 1, 1, 1, 1] := qS rfl
theorem q4_111100 : QR 4 g4 [0, 0, 1, 1, 1, 1] 2 := qR rfl rfl
theorem q4_111101 : QC 4 g4 [1, 0, 1, 1, 1, 1] 16 := qC rfl
theorem q4_1111010 : QS 4 g4 [0, 1, 0, 1, 1, 1, 1] := qS rfl
theorem q4_11110100 : QR 4 g4 [0, 0, 1, 0, 1, 1, 1, 1] 1 := qR rfl rfl
theorem q4_11110101 : QT 4 g4 [1, 0, 1, 0, 1, 1, 1, 1] := qT rfl
theorem q4_1111011 : QK 4 g4 [1, 1, 0, 1, 1, 1, 1] := qK rfl
theorem q4_11111 : QS 4 g4 [1, 1, 1, 1, 1] := qS rfl
theorem q4_111110 : QR 4 g4 [0, 1, 1, 1, 1, 1] 2 := qR rfl rfl
theorem q4_111111 : QT 4 g4 [1, 1, 1, 1, 1, 1] := qT rfl
theorem q5_ : QS 5 g5 [] := qS rfl
theorem q5_0 : QR 5 g5 [0] 2 := qR rfl rfl
theorem q5_1 : QS 5 g5 [1] := qS rfl
theorem q5_10 : QS 5 g5 [0, 1] := qS rfl
theorem q5_100 : QR 5 g5 [0, 0, 1] 3 := qR rfl rfl
theorem q5_101 : QC 5 g5 [1, 0, 1] 8 := qC rfl
theorem q5_1010 : QS 5 g5 [0, 1, 0, 1] := qS rfl
theorem q5_10100 : QR 5 g5 [0, 0, 1, 0, 1] 1 := qR rfl rfl
theorem q5_10101 : QT 5 g5 [1, 0, 1, 0, 1] := qT rfl
theorem q5_1011 : QK 5 g5 [1, 1, 0, 1] := qK rfl
theorem q5_11 : QS 5 g5 [1, 1] := qS rfl
theorem q5_110 : QR 5 g5 [0, 1, 1] 3 := qR rfl rfl
theorem q5_111 : QS 5 g5 [1, 1, 1] := qS rfl
theorem q5_1110 : QR 5 g5 [0, 1, 1, 1] 1 := qR rfl rfl
theorem q5_1111 : QS 5 g5 [1, 1, 1, 1] := qS rfl
theorem q5_11110 : QS 5 g5 [0, 1, 1, 1, 1] := qS rfl
theorem q5_111100 : QR 5 g5 [0, 0, 1, 1, 1, 1] 1 := qR rfl rfl
theorem q5_111101 : QB 5 g5 [1, 0, 1, 1, 1, 1] 0 := qB rfl
theorem q5_1111010 : QL 5 g5 [0, 1, 0, 1, 1, 1, 1] 6 := qL rfl rfl
theorem q5_11110100 : QS 5 g5 [0, 0, 1, 0, 1, 1, 1, 1] := qS rfl
theorem q5_111101000 : QS 5 g5 [0, 0, 0, 1, 0, 1, 1, 1, 1] := qS rfl
theorem q5_1111010000 : QR 5 g5 [0, 0, 0, 0, 1, 0, 1, 1, 1, 1] 4 := qR rfl rfl
theorem q5_1111010001 : QC 5 g5 [1, 0, 0, 0, 1, 0, 1, 1, 1, 1] 14 := qC rfl
theorem q5_11110100010 : QK 5 g5 [0, 1, 0, 0, 0, 1, 0, 1, 1, 1, 1] := qK rfl
theorem q5_11110100011 : QX 5 g5 [1, 1, 0, 0, 0, 1, 0, 1, 1, 1, 1] 0 := qX rfl
theorem q5_111101001 : QS 5 g5 [1, 0, 0, 1, 0, 1, 1, 1, 1] := qS rfl
theorem q5_1111010010 : QB 5 g5 [0, 1, 0, 0, 1, 0, 1, 1, 1, 1] 1 := qB rfl
theorem q5_11110100100 : QS 5 g5 [0, 0, 1, 0, 0, 1, 0, 1, 1, 1, 1] := qS rfl
theorem q5_111101001000 : QR 5 g5 [0, 0, 0, 1, 0, 0, 1, 0, 1, 1, 1, 1] 4 := qR rfl rfl
theorem q5_111101001001 : QC 5 g5 [1, 0, 0, 1, 0, 0, 1, 0, 1, 1, 1, 1] 20 := qC rfl
theorem q5_1111010010010 : QR 5 g5 [0, 1, 0, 0, 1, 0, 0, 1, 0, 1, 1, 1, 1] 3 := qR rfl rfl
theorem q5_1111010010011 : QK 5 g5 [1, 1, 0, 0, 1, 0, 0, 1, 0, 1, 1, 1, 1] := qK rfl
theorem q5_1111010011 : QR 5 g5 [1, 1, 0, 0, 1, 0, 1, 1, 1, 1] 3 := qR rfl rfl
theorem q5_11111 : QS 5 g5 [1, 1, 1, 1, 1] := qS rfl
theorem q5_111110 : QR 5 g5 [0, 1, 1, 1, 1, 1] 2 := qR rfl rfl
theorem q5_111111 : QT 5 g5 [1, 1, 1, 1, 1, 1] := qT rfl
theorem q6_ : QS 6 g6 [] := qS rfl
theorem q6_0 : QR 6 g6 [0] 2 := qR rfl rfl
theorem q6_1 : QS 6 g6 [1] := qS rfl
theorem q6_10 : QR 6 g6 [0, 1] 1 := qR rfl rfl
theorem q6_11 : QS 6 g6 [1, 1] := qS rfl
theorem q6_110 : QR 6 g6 [0, 1, 1] 5 := qR rfl rfl
theorem q6_111 : QS 6 g6 [1, 1, 1] := qS rfl
theorem q6_1110 : QR 6 g6 [0, 1, 1, 1] 5 := qR rfl rfl
theorem q6_1111 : QS 6 g6 [1, 1, 1, 1] := qS rfl
theorem q6_11110 : QR 6 g6 [0, 1, 1, 1, 1] 2 := qR rfl rfl
theorem q6_11111 : QT 6 g6 [1, 1, 1, 1, 1] := qT rfl
theorem q7_ : QS 7 g7 [] := qS rfl
theorem q7_0 : QR 7 g7 [0] 2 := qR rfl rfl
theorem q7_1 : QS 7 g7 [1] := qS rfl
theorem q7_10 : QS 7 g7 [0, 1] := qS rfl
theorem q7_100 : QR 7 g7 [0, 0, 1] 3 := qR rfl rfl
theorem q7_101 : QC 7 g7 [1, 0, 1] 8 := qC rfl
theorem q7_1010 : QS 7 g7 [0, 1, 0, 1] := qS rfl
theorem q7_10100 : QR 7 g7 [0, 0, 1, 0, 1] 1 := qR rfl rfl
theorem q7_10101 : QT 7 g7 [1, 0, 1, 0, 1] := qT rfl
theorem q7_1011 : QK 7 g7 [1, 1, 0, 1] := qK rfl
theorem q7_11 : QS 7 g7 [1, 1] := qS rfl
theorem q7_110 : QR 7 g7 [0, 1, 1] 1 := qR rfl rfl
theorem q7_111 : QS 7 g7 [1, 1, 1] := qS rfl
theorem q7_1110 : QS 7 g7 [0, 1, 1, 1] := qS rfl
theorem q7_11100 : QR 7 g7 [0, 0, 1, 1, 1] 4 := qR rfl rfl
theorem q7_11101 : QB 7 g7 [1, 0, 1, 1, 1] 0 := qB rfl
theorem q7_111010 : QL 7 g7 [0, 1, 0, 1, 1, 1] 5 := qL rfl rfl
theorem q7_1110100 : QS 7 g7 [0, 0, 1, 0, 1, 1, 1] := qS rfl
theorem q7_11101000 : QR 7 g7 [0, 0, 0, 1, 0, 1, 1, 1] 1 := qR rfl rfl
theorem q7_11101001 : QS 7 g7 [1, 0, 0, 1, 0, 1, 1, 1] := qS rfl
theorem q7_111010010 : QC 7 g7 [0, 1, 0, 0, 1, 0, 1, 1, 1] 13 := qC rfl
theorem q7_1110100100 : QK 7 g7 [0, 0, 1, 0, 0, 1, 0, 1, 1, 1] := qK rfl
theorem q7_1110100101 : QX 7 g7 [1, 0, 1, 0, 0, 1, 0, 1, 1, 1] 0 := qX rfl
theorem q7_111010011 : QS 7 g7 [1, 1, 0, 0, 1, 0, 1, 1, 1] := qS rfl
theorem q7_1110100110 : QB 7 g7 [0, 1, 1, 0, 0, 1, 0, 1, 1, 1] 1 := qB rfl
theorem q7_11101001100 : QS 7 g7 [0, 0, 1, 1, 0, 0, 1, 0, 1, 1, 1] := qS rfl
theorem q7_111010011000 : QR 7 g7 [0, 0, 0, 1, 1, 0, 0, 1, 0, 1, 1, 1] 3 := qR rfl rfl
theorem q7_111010011001 : QR 7 g7 [1, 0, 0, 1, 1, 0, 0, 1, 0, 1, 1, 1] 5 := qR rfl rfl
theorem q7_1110100111 : QR 7 g7 [1, 1, 1, 0, 0, 1, 0, 1, 1, 1] 2 := qR rfl rfl
theorem q7_1111 : QS 7 g7 [1, 1, 1, 1] := qS rfl
theorem q7_11110 : QR 7 g7 [0, 1, 1, 1, 1] 2 := qR rfl rfl
theorem q7_11111 : QT 7 g7 [1, 1, 1, 1, 1] := qT rfl
theorem q8_ : QS 8 g8 [] := qS rfl
theorem q8_0 : QR 8 g8 [0] 3 := qR rfl rfl
theorem q8_1 : QS 8 g8 [1] := qS rfl
theorem q8_10 : QS 8 g8 [0, 1] := qS rfl
theorem q8_100 : QR 8 g8 [0, 0, 1] 6 := qR rfl rfl
theorem q8_101 : QC 8 g8 [1, 0, 1] 10 := qC rfl
theorem q8_1010 : QS 8 g8 [0, 1, 0, 1] := qS rfl
theorem q8_10100 : QR 8 g8 [0, 0, 1, 0, 1] 1 := qR rfl rfl
theorem q8_10101 : QT 8 g8 [1, 0, 1, 0, 1] := qT rfl
theorem q8_1011 : QK 8 g8 [1, 1, 0, 1] := qK rfl
theorem q8_11 : QS 8 g8 [1, 1] := qS rfl
theorem q8_110 : QS 8 g8 [0, 1, 1] := qS rfl
theorem q8_1100 : QR 8 g8 [0, 0, 1, 1] 6 := qR rfl rfl
theorem q8_1101 : QC 8 g8 [1, 0, 1, 1] 16 := qC rfl
theorem q8_11010 : QS 8 g8 [0, 1, 0, 1, 1] := qS rfl
theorem q8_110100 : QR 8 g8 [0, 0, 1, 0, 1, 1] 1 := qR rfl rfl
theorem q8_110101 : QT 8 g8 [1, 0, 1, 0, 1, 1] := qT rfl
theorem q8_11011 : QK 8 g8 [1, 1, 0, 1, 1] := qK rfl
theorem q8_111 : QS 8 g8 [1, 1, 1] := qS rfl
theorem q8_1110 : QR 8 g8 [0, 1, 1, 1] 1 := qR rfl rfl
theorem q8_1111 : QT 8 g8 [1, 1, 1, 1] := qT rfl
theorem q9_ : QS 9 g9 [] := qS rfl
theorem q9_0 : QR 9 g9 [0] 1 := qR rfl rfl
theorem q9_1 : QS 9 g9 [1] := qS rfl
theorem q9_10 : QR 9 g9 [0, 1] 5 := qR rfl rfl
theorem q9_11 : QS 9 g9 [1, 1] := qS rfl
theorem q9_110 : QS 9 g9 [0, 1, 1] := qS rfl
theorem q9_1100 : QR 9 g9 [0, 0, 1, 1] 2 := qR rfl rfl
theorem q9_1101 : QC 9 g9 [1, 0, 1, 1] 11 := qC rfl
theorem q9_11010 : QS 9 g9 [0, 1, 0, 1, 1] := qS rfl
theorem q9_110100 : QR 9 g9 [0, 0, 1, 0, 1, 1] 1 := qR rfl rfl
theorem q9_110101 : QT 9 g9 [1, 0, 1, 0, 1, 1] := qT rfl
theorem q9_11011 : QK 9 g9 [1, 1, 0, 1, 1] := qK rfl
theorem q9_111 : QS 9 g9 [1, 1, 1] := qS rfl
theorem q9_1110 : QS 9 g9 [0, 1, 1, 1] := qS rfl
theorem q9_11100 : QR 9 g9 [0, 0, 1, 1, 1] 1 := qR rfl rfl
theorem q9_11101 : QB 9 g9 [1, 0, 1, 1, 1] 0 := qB rfl
theorem q9_111010 : QL 9 g9 [0, 1, 0, 1, 1, 1] 5 := qL rfl rfl
theorem q9_1110100 : QS 9 g9 [0, 0, 1, 0, 1, 1, 1] := qS rfl
theorem q9_11101000 : QS 9 g9 [0, 0, 0, 1, 0, 1, 1, 1] := qS rfl
theorem q9_111010000 : QR 9 g9 [0, 0, 0, 0, 1, 0, 1, 1, 1] 4 := qR rfl rfl
theorem q9_111010001 : QC 9 g9 [1, 0, 0, 0, 1, 0, 1, 1, 1] 15 := qC rfl
theorem q9_1110100010 : QK 9 g9 [0, 1, 0, 0, 0, 1, 0, 1, 1, 1] := qK rfl
theorem q9_1110100011 : QX 9 g9 [1, 1, 0, 0, 0, 1, 0, 1, 1, 1] 0 := qX rfl
theorem q9_11101001 : QS 9 g9 [1, 0, 0, 1, 0, 1, 1, 1] := qS rfl
theorem q9_111010010 : QB 9 g9 [0, 1, 0, 0, 1, 0, 1, 1, 1] 1 := qB rfl
theorem q9_1110100100 : QS 9 g9 [0, 0, 1, 0, 0, 1, 0, 1, 1, 1] := qS rfl
theorem q9_11101001000 : QR 9 g9 [0, 0, 0, 1, 0, 0, 1, 0, 1, 1, 1] 7 := qR rfl rfl
theorem q9_11101001001 : QS 9 g9 [1, 0, 0, 1, 0, 0, 1, 0, 1, 1, 1] := qS rfl
theorem q9_111010010010 : QR 9 g9 [0, 1, 0, 0, 1, 0, 0, 1, 0, 1, 1, 1] 2 := qR rfl rfl
theorem q9_111010010011 : QC 9 g9 [1, 1, 0, 0, 1, 0, 0, 1, 0, 1, 1, 1] 25 := qC rfl
theorem q9_1110100100110 : QS 9 g9 [0, 1, 1, 0, 0, 1, 0, 0, 1, 0, 1, 1, 1] := qS rfl
theorem q9_11101001001100 : QR 9 g9 [0, 0, 1, 1, 0, 0, 1, 0, 0, 1, 0, 1, 1, 1] 1 := qR rfl rfl
theorem q9_11101001001101 : QT 9 g9 [1, 0, 1, 1, 0, 0, 1, 0, 0, 1, 0, 1, 1, 1] := qT rfl
theorem q9_1110100100111 : QK 9 g9 [1, 1, 1, 0, 0, 1, 0, 0, 1, 0, 1, 1, 1] := qK rfl
theorem q9_111010011 : QR 9 g9 [1, 1, 0, 0, 1, 0, 1, 1, 1] 3 := qR rfl rfl
theorem q9_1111 : QS 9 g9 [1, 1, 1, 1] := qS rfl
theorem q9_11110 : QR 9 g9 [0, 1, 1, 1, 1] 2 := qR rfl rfl
theorem q9_11111 : QT 9 g9 [1, 1, 1, 1, 1] := qT rfl
theorem q10_ : QS 10 g10 [] := qS rfl
theorem q10_0 : QR 10 g10 [0] 1 := qR rfl rfl
theorem q10_1 : QS 10 g10 [1] := qS rfl
theorem q10_10 : QR 10 g10 [0, 1] 5 := qR rfl rfl
theorem q10_11 : QS 10 g10 [1, 1] := qS rfl
theorem q10_110 : QS 10 g10 [0, 1, 1] := qS rfl
theorem q10_1100 : QR 10 g10 [0, 0, 1, 1] 2 := qR rfl rfl
theorem q10_1101 : QC 10 g10 [1, 0, 1, 1] 10 := qC rfl
theorem q10_11010 : QS 10 g10 [0, 1, 0, 1, 1] := qS rfl
theorem q10_110100 : QR 10 g10 [0, 0, 1, 0, 1, 1] 1 := qR rfl rfl
theorem q10_110101 : QT 10 g10 [1, 0, 1, 0, 1, 1] := qT rfl
theorem q10_11011 : QK 10 g10 [1, 1, 0, 1, 1] := qK rfl
theorem q10_111 : QS 10 g10 [1, 1, 1] := qS rfl
theorem q10_1110 : QR 10 g10 [0, 1, 1, 1] 2 := qR rfl rfl
theorem q10_1111 : QT 10 g10 [1, 1, 1, 1] := qT rfl
theorem q11_ : QS 11 g11 [] := qS rfl
theorem q11_0 : QR 11 g11 [0] 2 := qR rfl rfl
theorem q11_1 : QS 11 g11 [1] := qS rfl
theorem q11_10 : QS 11 g11 [0, 1] := qS rfl
theorem q11_100 : QR 11 g11 [0, 0, 1] 10 := qR rfl rfl
theorem q11_101 : QC 11 g11 [1, 0, 1] 15 := qC rfl
theorem q11_1010 : QS 11 g11 [0, 1, 0, 1] := qS rfl
theorem q11_10100 : QR 11 g11 [0, 0, 1, 0, 1] 1 := qR rfl rfl
theorem q11_10101 : QT 11 g11 [1, 0, 1, 0, 1] := qT rfl
theorem q11_1011 : QK 11 g11 [1, 1, 0, 1] := qK rfl
theorem q11_11 : QS 11 g11 [1, 1] := qS rfl
theorem q11_110 : QS 11 g11 [0, 1, 1] := qS rfl
theorem q11_1100 : QR 11 g11 [0, 0, 1, 1] 1 := qR rfl rfl
theorem q11_1101 : QB 11 g11 [1, 0, 1, 1] 0 := qB rfl
theorem q11_11010 : QL 11 g11 [0, 1, 0, 1, 1] 4 := qL rfl rfl
theorem q11_110100 : QS 11 g11 [0, 0, 1, 0, 1, 1] := qS rfl
theorem q11_1101000 : QS 11 g11 [0, 0, 0, 1, 0, 1, 1] := qS rfl
theorem q11_11010000 : QR 11 g11 [0, 0, 0, 0, 1, 0, 1, 1] 5 := qR rfl rfl
theorem q11_11010001 : QC 11 g11 [1, 0, 0, 0, 1, 0, 1, 1] 20 := qC rfl
theorem q11_110100010 : QK 11 g11 [0, 1, 0, 0, 0, 1, 0, 1, 1] := qK rfl
theorem q11_110100011 : QX 11 g11 [1, 1, 0, 0, 0, 1, 0, 1, 1] 0 := qX rfl
theorem q11_1101001 : QS 11 g11 [1, 0, 0, 1, 0, 1, 1] := qS rfl
theorem q11_11010010 : QB 11 g11 [0, 1, 0, 0, 1, 0, 1, 1] 1 := qB rfl
theorem q11_110100100 : QS 11 g11 [0, 0, 1, 0, 0, 1, 0, 1, 1] := qS rfl
theorem q11_1101001000 : QR 11 g11 [0, 0, 0, 1, 0, 0, 1, 0, 1, 1] 4 := qR rfl rfl
theorem q11_1101001001 : QC 11 g11 [1, 0, 0, 1, 0, 0, 1, 0, 1, 1] 26 := qC rfl
theorem q11_11010010010 : QS 11 g11 [0, 1, 0, 0, 1, 0, 0, 1, 0, 1, 1] := qS rfl
theorem q11_110100100100 : QR 11 g11 [0, 0, 1, 0, 0, 1, 0, 0, 1, 0, 1, 1] 1 := qR rfl rfl
theorem q11_110100100101 : QT 11 g11 [1, 0, 1, 0, 0, 1, 0, 0, 1, 0, 1, 1] := qT rfl
theorem q11_11010010011 : QK 11 g11 [1, 1, 0, 0, 1, 0, 0, 1, 0, 1, 1] := qK rfl
theorem q11_11010011 : QR 11 g11 [1, 1, 0, 0, 1, 0, 1, 1] 3 := qR rfl rfl
theorem q11_111 : QS 11 g11 [1, 1, 1] := qS rfl
theorem q11_1110 : QS 11 g11 [0, 1, 1, 1] := qS rfl
theorem q11_11100 : QR 11 g11 [0, 0, 1, 1, 1] 1 := qR rfl rfl
theorem q11_11101 : QB 11 g11 [1, 0, 1, 1, 1] 2 := qB rfl
theorem q11_111010 : QL 11 g11 [0, 1, 0, 1, 1, 1] 9 := qL rfl rfl
theorem q11_1110100 : QS 11 g11 [0, 0, 1, 0, 1, 1, 1] := qS rfl
theorem q11_11101000 : QS 11 g11 [0, 0, 0, 1, 0, 1, 1, 1] := qS rfl
theorem q11_111010000 : QR 11 g11 [0, 0, 0, 0, 1, 0, 1, 1, 1] 5 := qR rfl rfl
theorem q11_111010001 : QC 11 g11 [1, 0, 0, 0, 1, 0, 1, 1, 1] 31 := qC rfl
theorem q11_1110100010 : QK 11 g11 [0, 1, 0, 0, 0, 1, 0, 1, 1, 1] := qK rfl
theorem q11_1110100011 : QX 11 g11 [1, 1, 0, 0, 0, 1, 0, 1, 1, 1] 2 := qX rfl
theorem q11_11101001 : QS 11 g11 [1, 0, 0, 1, 0, 1, 1, 1] := qS rfl
theorem q11_111010010 : QB 11 g11 [0, 1, 0, 0, 1, 0, 1, 1, 1] 3 := qB rfl
theorem q11_1110100100 : QS 11 g11 [0, 0, 1, 0, 0, 1, 0, 1, 1, 1] := qS rfl
theorem q11_11101001000 : QR 11 g11 [0, 0, 0, 1, 0, 0, 1, 0, 1, 1, 1] 7 := qR rfl rfl
theorem q11_11101001001 : QS 11 g11 [1, 0, 0, 1, 0, 0, 1, 0, 1, 1, 1] := qS rfl
theorem q11_111010010010 : QS 11 g11 [0, 1, 0, 0, 1, 0, 0, 1, 0, 1, 1, 1] := qS rfl
theorem q11_1110100100100 : QR 11 g11 [0, 0, 1, 0, 0, 1, 0, 0, 1, 0, 1, 1, 1] 24 := qR rfl rfl
theorem q11_1110100100101 : QC 11 g11 [1, 0, 1, 0, 0, 1, 0, 0, 1, 0, 1, 1, 1] 62 := qC rfl
theorem q11_11101001001010 : QS 11 g11 [0, 1, 0, 1, 0, 0, 1, 0, 0, 1, 0, 1, 1, 1] := qS rfl
theorem q11_111010010010100 : QR 11 g11 [0, 0, 1, 0, 1, 0, 0, 1, 0, 0, 1, 0, 1, 1, 1] 1 := qR rfl rfl
theorem q11_111010010010101 : QT 11 g11 [1, 0, 1, 0, 1, 0, 0, 1, 0, 0, 1, 0, 1, 1, 1] := qT rfl
theorem q11_11101001001011 : QK 11 g11 [1, 1, 0, 1, 0, 0, 1, 0, 0, 1, 0, 1, 1, 1] := qK rfl
theorem q11_111010010011 : QS 11 g11 [1, 1, 0, 0, 1, 0, 0, 1, 0, 1, 1, 1] := qS rfl
theorem q11_1110100100110 : QR 11 g11 [0, 1, 1, 0, 0, 1, 0, 0, 1, 0, 1, 1, 1] 29 := qR rfl rfl
theorem q11_1110100100111 : QC 11 g11 [1, 1, 1, 0, 0, 1, 0, 0, 1, 0, 1, 1, 1] 91 := qC rfl
theorem q11_11101001001110 : QS 11 g11 [0, 1, 1, 1, 0, 0, 1, 0, 0, 1, 0, 1, 1, 1] := qS rfl
theorem q11_111010010011100 : QR 11 g11 [0, 0, 1, 1, 1, 0, 0, 1, 0, 0, 1, 0, 1, 1, 1] 1 := qR rfl rfl
theorem q11_111010010011101 : QT 11 g11 [1, 0, 1, 1, 1, 0, 0, 1, 0, 0, 1, 0, 1, 1, 1] := qT rfl
theorem q11_11101001001111 : QK 11 g11 [1, 1, 1, 1, 0, 0, 1, 0, 0, 1, 0, 1, 1, 1] := qK rfl
theorem q11_111010011 : QR 11 g11 [1, 1, 0, 0, 1, 0, 1, 1, 1] 3 := qR rfl rfl
theorem q11_1111 : QS 11 g11 [1, 1, 1, 1] := qS rfl
theorem q11_11110 : QR 11 g11 [0, 1, 1, 1, 1] 1 := qR rfl rfl
theorem q11_11111 : QT 11 g11 [1, 1, 1, 1, 1] := qT rfl
theorem q12_ : QS 12 g12 [] := qS rfl
theorem q12_0 : QR 12 g12 [0] 2 := qR rfl rfl
theorem q12_1 : QS 12 g12 [1] := qS rfl
theorem q12_10 : QR 12 g12 [0, 1] 5 := qR rfl rfl
theorem q12_11 : QS 12 g12 [1, 1] := qS rfl
theorem q12_110 : QS 12 g12 [0, 1, 1] := qS rfl
theorem q12_1100 : QR 12 g12 [0, 0, 1, 1] 1 := qR rfl rfl
theorem q12_1101 : QB 12 g12 [1, 0, 1, 1] 0 := qB rfl
theorem q12_11010 : QL 12 g12 [0, 1, 0, 1, 1] 3 := qL rfl rfl
theorem q12_110100 : QS 12 g12 [0, 0, 1, 0, 1, 1] := qS rfl
theorem q12_1101000 : QS 12 g12 [0, 0, 0, 1, 0, 1, 1] := qS rfl
theorem q12_11010000 : QR 12 g12 [0, 0, 0, 0, 1, 0, 1, 1] 5 := qR rfl rfl
theorem q12_11010001 : QC 12 g12 [1, 0, 0, 0, 1, 0, 1, 1] 15 := qC rfl
theorem q12_110100010 : QK 12 g12 [0, 1, 0, 0, 0, 1, 0, 1, 1] := qK rfl
theorem q12_110100011 : QX 12 g12 [1, 1, 0, 0, 0, 1, 0, 1, 1] 0 := qX rfl
theorem q12_1101001 : QS 12 g12 [1, 0, 0, 1, 0, 1, 1] := qS rfl
theorem q12_11010010 : QB 12 g12 [0, 1, 0, 0, 1, 0, 1, 1] 1 := qB rfl
theorem q12_110100100 : QS 12 g12 [0, 0, 1, 0, 0, 1, 0, 1, 1] := qS rfl
theorem q12_1101001000 : QR 12 g12 [0, 0, 0, 1, 0, 0, 1, 0, 1, 1] 9 := qR rfl rfl
theorem q12_1101001001 : QS 12 g12 [1, 0, 0, 1, 0, 0, 1, 0, 1, 1] := qS rfl
theorem q12_11010010010 : QR 12 g12 [0, 1, 0, 0, 1, 0, 0, 1, 0, 1, 1] 7 := qR rfl rfl
theorem q12_11010010011 : QC 12 g12 [1, 1, 0, 0, 1, 0, 0, 1, 0, 1, 1] 32 := qC rfl
theorem q12_110100100110 : QR 12 g12 [0, 1, 1, 0, 0, 1, 0, 0, 1, 0, 1, 1] 9 := qR rfl rfl
theorem q12_110100100111 : QK 12 g12 [1, 1, 1, 0, 0, 1, 0, 0, 1, 0, 1, 1] := qK rfl
theorem q12_11010011 : QR 12 g12 [1, 1, 0, 0, 1, 0, 1, 1] 3 := qR rfl rfl
theorem q12_111 : QS 12 g12 [1, 1, 1] := qS rfl
theorem q12_1110 : QS 12 g12 [0, 1, 1, 1] := qS rfl
theorem q12_11100 : QR 12 g12 [0, 0, 1, 1, 1] 5 := qR rfl rfl
theorem q12_11101 : QB 12 g12 [1, 0, 1, 1, 1] 2 := qB rfl
theorem q12_111010 : QL 12 g12 [0, 1, 0, 1, 1, 1] 9 := qL rfl rfl
theorem q12_1110100 : QS 12 g12 [0, 0, 1, 0, 1, 1, 1] := qS rfl
theorem q12_11101000 : QS 12 g12 [0, 0, 0, 1, 0, 1, 1, 1] := qS rfl
theorem q12_111010000 : QR 12 g12 [0, 0, 0, 0, 1, 0, 1, 1, 1] 2 := qR rfl rfl
theorem q12_111010001 : QC 12 g12 [1, 0, 0, 0, 1, 0, 1, 1, 1] 46 := qC rfl
theorem q12_1110100010 : QK 12 g12 [0, 1, 0, 0, 0, 1, 0, 1, 1, 1] := qK rfl
theorem q12_1110100011 : QX 12 g12 [1, 1, 0, 0, 0, 1, 0, 1, 1, 1] 2 := qX rfl
theorem q12_11101001 : QS 12 g12 [1, 0, 0, 1, 0, 1, 1, 1] := qS rfl
theorem q12_111010010 : QB 12 g12 [0, 1, 0, 0, 1, 0, 1, 1, 1] 3 := qB rfl
theorem q12_1110100100 : QS 12 g12 [0, 0, 1, 0, 0, 1, 0, 1, 1, 1] := qS rfl
theorem q12_11101001000 : QR 12 g12 [0, 0, 0, 1, 0, 0, 1, 0, 1, 1, 1] 1 := qR rfl rfl
theorem q12_11101001001 : QB 12 g12 [1, 0, 0, 1, 0, 0, 1, 0, 1, 1, 1] 4 := qB rfl
theorem q12_111010010010 : QL 12 g12 [0, 1, 0, 0, 1, 0, 0, 1, 0, 1, 1, 1] 12 := qL rfl rfl
theorem q12_1110100100100 : QS 12 g12 [0, 0, 1, 0, 0, 1, 0, 0, 1, 0, 1, 1, 1] := qS rfl
theorem q12_11101001001000 : QS 12 g12 [0, 0, 0, 1, 0, 0, 1, 0, 0, 1, 0, 1, 1, 1] := qS rfl
theorem q12_111010010010000 : QR 12 g12 [0, 0, 0, 0, 1, 0, 0, 1, 0, 0, 1, 0, 1, 1, 1] 15 := qR rfl rfl
theorem q12_111010010010001 : QC 12 g12 [1, 0, 0, 0, 1, 0, 0, 1, 0, 0, 1, 0, 1, 1, 1] 63 := qC rfl
theorem q12_1110100100100010 : QK 12 g12 [0, 1, 0, 0, 0, 1, 0, 0, 1, 0, 0, 1, 0, 1, 1, 1] := qK rfl
theorem q12_1110100100100011 : QX 12 g12 [1, 1, 0, 0, 0, 1, 0, 0, 1, 0, 0, 1, 0, 1, 1, 1] 4 := qX rfl
theorem q12_11101001001001 : QS 12 g12 [1, 0, 0, 1, 0, 0, 1, 0, 0, 1, 0, 1, 1, 1] := qS rfl
theorem q12_111010010010010 : QB 12 g12 [0, 1, 0, 0, 1, 0, 0, 1, 0, 0, 1, 0, 1, 1, 1] 5 := qB rfl
theorem q12_1110100100100100 : QR 12 g12 [0, 0, 1, 0, 0, 1, 0, 0, 1, 0, 0, 1, 0, 1, 1, 1] 12 := qR rfl rfl
theorem q12_111010010010011 : QR 12 g12 [1, 1, 0, 0, 1, 0, 0, 1, 0, 0, 1, 0, 1, 1, 1] 3 := qR rfl rfl
theorem q12_111010011 : QR 12 g12 [1, 1, 0, 0, 1, 0, 1, 1, 1] 3 := qR rfl rfl
theorem q12_1111 : QS 12 g12 [1, 1, 1, 1] := qS rfl
theorem q12_11110 : QR 12 g12 [0, 1, 1, 1, 1] 2 := qR rfl rfl
theorem q12_11111 : QT 12 g12 [1, 1, 1, 1, 1] := qT rfl
theorem q13_ : QS 13 g13 [] := qS rfl
theorem q13_0 : QR 13 g13 [0] 1 := qR rfl rfl
theorem q13_1 : QS 13 g13 [1] := qS rfl
theorem q13_10 : QR 13 g13 [0, 1] 4 := qR rfl rfl
theorem q13_11 : QS 13 g13 [1, 1] := qS rfl
theorem q13_110 : QS 13 g13 [0, 1, 1] := qS rfl
theorem q13_1100 : QR 13 g13 [0, 0, 1, 1] 1 := qR rfl rfl
theorem q13_1101 : QB 13 g13 [1, 0, 1, 1] 0 := qB rfl
theorem q13_11010 : QL 13 g13 [0, 1, 0, 1, 1] 3 := qL rfl rfl
theorem q13_110100 : QS 13 g13 [0, 0, 1, 0, 1, 1] := qS rfl
theorem q13_1101000 : QS 13 g13 [0, 0, 0, 1, 0, 1, 1] := qS rfl
theorem q13_11010000 : QR 13 g13 [0, 0, 0, 0, 1, 0, 1, 1] 4 := qR rfl rfl
theorem q13_11010001 : QC 13 g13 [1, 0, 0, 0, 1, 0, 1, 1] 11 := qC rfl
theorem q13_110100010 : QK 13 g13 [0, 1, 0, 0, 0, 1, 0, 1, 1] := qK rfl
theorem q13_110100011 : QX 13 g13 [1, 1, 0, 0, 0, 1, 0, 1, 1] 0 := qX rfl
theorem q13_1101001 : QS 13 g13 [1, 0, 0, 1, 0, 1, 1] := qS rfl
theorem q13_11010010 : QB 13 g13 [0, 1, 0, 0, 1, 0, 1, 1] 1 := qB rfl
theorem q13_110100100 : QR 13 g13 [0, 0, 1, 0, 0, 1, 0, 1, 1] 9 := qR rfl rfl
theorem q13_11010011 : QR 13 g13 [1, 1, 0, 0, 1, 0, 1, 1] 3 := qR rfl rfl
theorem q13_111 : QS 13 g13 [1, 1, 1] := qS rfl
theorem q13_1110 : QR 13 g13 [0, 1, 1, 1] 2 := qR rfl rfl
theorem q13_1111 : QT 13 g13 [1, 1, 1, 1] := qT rfl
theorem q14_ : QS 14 g14 [] := qS rfl
theorem q14_0 : QR 14 g14 [0] 1 := qR rfl rfl
theorem q14_1 : QS 14 g14 [1] := qS rfl
theorem q14_10 : QR 14 g14 [0, 1] 4 := qR rfl rfl
theorem q14_11 : QS 14 g14 [1, 1] := qS rfl
theorem q14_110 : QS 14 g14 [0, 1, 1] := qS rfl
theorem q14_1100 : QR 14 g14 [0, 0, 1, 1] 1 := qR rfl rfl
theorem q14_1101 : QB 14 g14 [1, 0, 1, 1] 0 := qB rfl
theorem q14_11010 : QL 14 g14 [0, 1, 0, 1, 1] 3 := qL rfl rfl
theorem q14_110100 : QS 14 g14 [0, 0, 1, 0, 1, 1] := qS rfl
theorem q14_1101000 : QS 14 g14 [0, 0, 0, 1, 0, 1, 1] := qS rfl
theorem q14_11010000 : QR 14 g14 [0, 0, 0, 0, 1, 0, 1, 1] 4 := qR rfl rfl
theorem q14_11010001 : QC 14 g14 [1, 0, 0, 0, 1, 0, 1, 1] 11 := qC rfl
theorem q14_110100010 : QK 14 g14 [0, 1, 0, 0, 0, 1, 0, 1, 1] := qK rfl
theorem q14_110100011 : QX 14 g14 [1, 1, 0, 0, 0, 1, 0, 1, 1] 0 := qX rfl
theorem q14_1101001 : QS 14 g14 [1, 0, 0, 1, 0, 1, 1] := qS rfl
theorem q14_11010010 : QB 14 g14 [0, 1, 0, 0, 1, 0, 1, 1] 1 := qB rfl
theorem q14_110100100 : QR 14 g14 [0, 0, 1, 0, 0, 1, 0, 1, 1] 9 := qR rfl rfl
theorem q14_11010011 : QR 14 g14 [1, 1, 0, 0, 1, 0, 1, 1] 3 := qR rfl rfl
theorem q14_111 : QS 14 g14 [1, 1, 1] := qS rfl
theorem q14_1110 : QR 14 g14 [0, 1, 1, 1] 2 := qR rfl rfl
theorem q14_1111 : QT 14 g14 [1, 1, 1, 1] := qT rfl
theorem q15_ : QS 15 g15 [] := qS rfl
theorem q15_0 : QR 15 g15 [0] 2 := qR rfl rfl
theorem q15_1 : QS 15 g15 [1] := qS rfl
theorem q15_10 : QS 15 g15 [0, 1] := qS rfl
theorem q15_100 : QR 15 g15 [0, 0, 1] 4 := qR rfl rfl
theorem q15_101 : QB 15 g15 [1, 0, 1] 0 := qB rfl
theorem q15_1010 : QL 15 g15 [0, 1, 0, 1] 2 := qL rfl rfl
theorem q15_10100 : QS 15 g15 [0, 0, 1, 0, 1] := qS rfl
theorem q15_101000 : QR 15 g15 [0, 0, 0, 1, 0, 1] 1 := qR rfl rfl
theorem q15_101001 : QS 15 g15 [1, 0, 0, 1, 0, 1] := qS rfl
theorem q15_1010010 : QC 15 g15 [0, 1, 0, 0, 1, 0, 1] 11 := qC rfl
theorem q15_10100100 : QK 15 g15 [0, 0, 1, 0, 0, 1, 0, 1] := qK rfl
theorem q15_10100101 : QX 15 g15 [1, 0, 1, 0, 0, 1, 0, 1] 0 := qX rfl
theorem q15_1010011 : QS 15 g15 [1, 1, 0, 0, 1, 0, 1] := qS rfl
theorem q15_10100110 : QB 15 g15 [0, 1, 1, 0, 0, 1, 0, 1] 1 := qB rfl
theorem q15_101001100 : QS 15 g15 [0, 0, 1, 1, 0, 0, 1, 0, 1] := qS rfl
theorem q15_1010011000 : QR 15 g15 [0, 0, 0, 1, 1, 0, 0, 1, 0, 1] 6 := qR rfl rfl
theorem q15_1010011001 : QS 15 g15 [1, 0, 0, 1, 1, 0, 0, 1, 0, 1] := qS rfl
theorem q15_10100110010 : QR 15 g15 [0, 1, 0, 0, 1, 1, 0, 0, 1, 0, 1] 22 := qR rfl rfl
theorem q15_10100110011 : QC 15 g15 [1, 1, 0, 0, 1, 1, 0, 0, 1, 0, 1] 36 := qC rfl
theorem q15_101001100110 : QS 15 g15 [0, 1, 1, 0, 0, 1, 1, 0, 0, 1, 0, 1] := qS rfl
theorem q15_1010011001100 : QR 15 g15 [0, 0, 1, 1, 0, 0, 1, 1, 0, 0, 1, 0, 1] 1 := qR rfl rfl
theorem q15_1010011001101 : QT 15 g15 [1, 0, 1, 1, 0, 0, 1, 1, 0, 0, 1, 0, 1] := qT rfl
theorem q15_101001100111 : QK 15 g15 [1, 1, 1, 0, 0, 1, 1, 0, 0, 1, 0, 1] := qK rfl
theorem q15_10100111 : QR 15 g15 [1, 1, 1, 0, 0, 1, 0, 1] 2 := qR rfl rfl
theorem q15_11 : QS 15 g15 [1, 1] := qS rfl
theorem q15_110 : QS 15 g15 [0, 1, 1] := qS rfl
theorem q15_1100 : QR 15 g15 [0, 0, 1, 1] 4 := qR rfl rfl
theorem q15_1101 : QB 15 g15 [1, 0, 1, 1] 2 := qB rfl
theorem q15_11010 : QL 15 g15 [0, 1, 0, 1, 1] 8 := qL rfl rfl
theorem q15_110100 : QS 15 g15 [0, 0, 1, 0, 1, 1] := qS rfl
theorem q15_1101000 : QR 15 g15 [0, 0, 0, 1, 0, 1, 1] 1 := qR rfl rfl
theorem q15_1101001 : QS 15 g15 [1, 0, 0, 1, 0, 1, 1] := qS rfl
theorem q15_11010010 : QC 15 g15 [0, 1, 0, 0, 1, 0, 1, 1] 42 := qC rfl
theorem q15_110100100 : QK 15 g15 [0, 0, 1, 0, 0, 1, 0, 1, 1] := qK rfl
theorem q15_110100101 : QX 15 g15 [1, 0, 1, 0, 0, 1, 0, 1, 1] 2 := qX rfl
theorem q15_11010011 : QS 15 g15 [1, 1, 0, 0, 1, 0, 1, 1] := qS rfl
theorem q15_110100110 : QB 15 g15 [0, 1, 1, 0, 0, 1, 0, 1, 1] 3 := qB rfl
theorem q15_1101001100 : QS 15 g15 [0, 0, 1, 1, 0, 0, 1, 0, 1, 1] := qS rfl
theorem q15_11010011000 : QR 15 g15 [0, 0, 0, 1, 1, 0, 0, 1, 0, 1, 1] 4 := qR rfl rfl
theorem q15_11010011001 : QS 15 g15 [1, 0, 0, 1, 1, 0, 0, 1, 0, 1, 1] := qS rfl
theorem q15_110100110010 : QR 15 g15 [0, 1, 0, 0, 1, 1, 0, 0, 1, 0, 1, 1] 4 := qR rfl rfl
theorem q15_110100110011 : QC 15 g15 [1, 1, 0, 0, 1, 1, 0, 0, 1, 0, 1, 1] 48 := qC rfl
theorem q15_1101001100110 : QS 15 g15 [0, 1, 1, 0, 0, 1, 1, 0, 0, 1, 0, 1, 1] := qS rfl
theorem q15_11010011001100 : QR 15 g15 [0, 0, 1, 1, 0, 0, 1, 1, 0, 0, 1, 0, 1, 1] 1 := qR rfl rfl
theorem q15_11010011001101 : QT 15 g15 [1, 0, 1, 1, 0, 0, 1, 1, 0, 0, 1, 0, 1, 1] := qT rfl
theorem q15_1101001100111 : QK 15 g15 [1, 1, 1, 0, 0, 1, 1, 0, 0, 1, 0, 1, 1] := qK rfl
theorem q15_110100111 : QR 15 g15 [1, 1, 1, 0, 0, 1, 0, 1, 1] 2 := qR rfl rfl
theorem q15_111 : QS 15 g15 [1, 1, 1] := qS rfl
theorem q15_1110 : QR 15 g15 [0, 1, 1, 1] 11 := qR rfl rfl
theorem q15_1111 : QT 15 g15 [1, 1, 1, 1] := qT rfl
theorem q16_ : QS 16 g16 [] := qS rfl
theorem q16_0 : QR 16 g16 [0] 2 := qR rfl rfl
theorem q16_1 : QS 16 g16 [1] := qS rfl
theorem q16_10 : QR 16 g16 [0, 1] 5 := qR rfl rfl
theorem q16_11 : QS 16 g16 [1, 1] := qS rfl
theorem q16_110 : QS 16 g16 [0, 1, 1] := qS rfl
theorem q16_1100 : QR 16 g16 [0, 0, 1, 1] 4 := qR rfl rfl
theorem q16_1101 : QB 16 g16 [1, 0, 1, 1] 0 := qB rfl
theorem q16_11010 : QL 16 g16 [0, 1, 0, 1, 1] 3 := qL rfl rfl
theorem q16_110100 : QS 16 g16 [0, 0, 1, 0, 1, 1] := qS rfl
theorem q16_1101000 : QR 16 g16 [0, 0, 0, 1, 0, 1, 1] 1 := qR rfl rfl
theorem q16_1101001 : QS 16 g16 [1, 0, 0, 1, 0, 1, 1] := qS rfl
theorem q16_11010010 : QC 16 g16 [0, 1, 0, 0, 1, 0, 1, 1] 19 := qC rfl
theorem q16_110100100 : QK 16 g16 [0, 0, 1, 0, 0, 1, 0, 1, 1] := qK rfl
theorem q16_110100101 : QX 16 g16 [1, 0, 1, 0, 0, 1, 0, 1, 1] 0 := qX rfl
theorem q16_11010011 : QS 16 g16 [1, 1, 0, 0, 1, 0, 1, 1] := qS rfl
theorem q16_110100110 : QB 16 g16 [0, 1, 1, 0, 0, 1, 0, 1, 1] 1 := qB rfl
theorem q16_1101001100 : QS 16 g16 [0, 0, 1, 1, 0, 0, 1, 0, 1, 1] := qS rfl
theorem q16_11010011000 : QR 16 g16 [0, 0, 0, 1, 1, 0, 0, 1, 0, 1, 1] 4 := qR rfl rfl
theorem q16_11010011001 : QS 16 g16 [1, 0, 0, 1, 1, 0, 0, 1, 0, 1, 1] := qS rfl
theorem q16_110100110010 : QS 16 g16 [0, 1, 0, 0, 1, 1, 0, 0, 1, 0, 1, 1] := qS rfl
theorem q16_1101001100100 : QR 16 g16 [0, 0, 1, 0, 0, 1, 1, 0, 0, 1, 0, 1, 1] 8 := qR rfl rfl
theorem q16_1101001100101 : QC 16 g16 [1, 0, 1, 0, 0, 1, 1, 0, 0, 1, 0, 1, 1] 29 := qC rfl
theorem q16_11010011001010 : QX 16 g16 [0, 1, 0, 1, 0, 0, 1, 1, 0, 0, 1, 0, 1, 1] 1 := qX rfl
theorem q16_11010011001011 : QK 16 g16 [1, 1, 0, 1, 0, 0, 1, 1, 0, 0, 1, 0, 1, 1] := qK rfl
theorem q16_110100110011 : QS 16 g16 [1, 1, 0, 0, 1, 1, 0, 0, 1, 0, 1, 1] := qS rfl
theorem q16_1101001100110 : QR 16 g16 [0, 1, 1, 0, 0, 1, 1, 0, 0, 1, 0, 1, 1] 5 := qR rfl rfl
theorem q16_1101001100111 : QS 16 g16 [1, 1, 1, 0, 0, 1, 1, 0, 0, 1, 0, 1, 1] := qS rfl
theorem q16_11010011001110 : QR 16 g16 [0, 1, 1, 1, 0, 0, 1, 1, 0, 0, 1, 0, 1, 1] 3 := qR rfl rfl
theorem q16_11010011001111 : QC 16 g16 [1, 1, 1, 1, 0, 0, 1, 1, 0, 0, 1, 0, 1, 1] 36 := qC rfl
theorem q16_110100110011110 : QR 16 g16 [0, 1, 1, 1, 1, 0, 0, 1, 1, 0, 0, 1, 0, 1, 1] 5 := qR rfl rfl
theorem q16_110100110011111 : QK 16 g16 [1, 1, 1, 1, 1, 0, 0, 1, 1, 0, 0, 1, 0, 1, 1] := qK rfl
theorem q16_110100111 : QR 16 g16 [1, 1, 1, 0, 0, 1, 0, 1, 1] 2 := qR rfl rfl
theorem q16_111 : QS 16 g16 [1, 1, 1] := qS rfl
theorem q16_1110 : QS 16 g16 [0, 1, 1, 1] := qS rfl
theorem q16_11100 : QR 16 g16 [0, 0, 1, 1, 1] 5 := qR rfl rfl
theorem q16_11101 : QB 16 g16 [1, 0, 1, 1, 1] 2 := qB rfl
theorem q16_111010 : QL 16 g16 [0, 1, 0, 1, 1, 1] 11 := qL rfl rfl
theorem q16_1110100 : QS 16 g16 [0, 0, 1, 0, 1, 1, 1] := qS rfl
theorem q16_11101000 : QS 16 g16 [0, 0, 0, 1, 0, 1, 1, 1] := qS rfl
theorem q16_111010000 : QR 16 g16 [0, 0, 0, 0, 1, 0, 1, 1, 1] 2 := qR rfl rfl
theorem q16_111010001 : QC 16 g16 [1, 0, 0, 0, 1, 0, 1, 1, 1] 47 := qC rfl
theorem q16_1110100010 : QK 16 g16 [0, 1, 0, 0, 0, 1, 0, 1, 1, 1] := qK rfl
theorem q16_1110100011 : QX 16 g16 [1, 1, 0, 0, 0, 1, 0, 1, 1, 1] 2 := qX rfl
theorem q16_11101001 : QS 16 g16 [1, 0, 0, 1, 0, 1, 1, 1] := qS rfl
theorem q16_111010010 : QB 16 g16 [0, 1, 0, 0, 1, 0, 1, 1, 1] 3 := qB rfl
theorem q16_1110100100 : QS 16 g16 [0, 0, 1, 0, 0, 1, 0, 1, 1, 1] := qS rfl
theorem q16_11101001000 : QR 16 g16 [0, 0, 0, 1, 0, 0, 1, 0, 1, 1, 1] 8 := qR rfl rfl
theorem q16_11101001001 : QB 16 g16 [1, 0, 0, 1, 0, 0, 1, 0, 1, 1, 1] 4 := qB rfl
theorem q16_111010010010 : QL 16 g16 [0, 1, 0, 0, 1, 0, 0, 1, 0, 1, 1, 1] 14 := qL rfl rfl
theorem q16_1110100100100 : QS 16 g16 [0, 0, 1, 0, 0, 1, 0, 0, 1, 0, 1, 1, 1] := qS rfl
theorem q16_11101001001000 : QR 16 g16 [0, 0, 0, 1, 0, 0, 1, 0, 0, 1, 0, 1, 1, 1] 1 := qR rfl rfl
theorem q16_11101001001001 : QS 16 g16 [1, 0, 0, 1, 0, 0, 1, 0, 0, 1, 0, 1, 1, 1] := qS rfl
theorem q16_111010010010010 : QC 16 g16 [0, 1, 0, 0, 1, 0, 0, 1, 0, 0, 1, 0, 1, 1, 1] 58 := qC rfl
theorem q16_1110100100100100 : QK 16 g16 [0, 0, 1, 0, 0, 1, 0, 0, 1, 0, 0, 1, 0, 1, 1, 1] := qK rfl
theorem q16_1110100100100101 : QX 16 g16 [1, 0, 1, 0, 0, 1, 0, 0, 1, 0, 0, 1, 0, 1, 1, 1] 4 := qX rfl
theorem q16_111010010010011 : QS 16 g16 [1, 1, 0, 0, 1, 0, 0, 1, 0, 0, 1, 0, 1, 1, 1] := qS rfl
theorem q16_1110100100100110 : QB 16 g16 [0, 1, 1, 0, 0, 1, 0, 0, 1, 0, 0, 1, 0, 1, 1, 1] 5 := qB rfl
theorem q16_11101001001001100 : QS 16 g16 [0, 0, 1, 1, 0, 0, 1, 0, 0, 1, 0, 0, 1, 0, 1, 1, 1] := qS rfl
theorem q16_111010010010011000 : QR 16 g16 [0, 0, 0, 1, 1, 0, 0, 1, 0, 0, 1, 0, 0, 1, 0, 1, 1, 1] 3 := qR rfl rfl
theorem q16_111010010010011001 : QR 16 g16 [1, 0, 0, 1, 1, 0, 0, 1, 0, 0, 1, 0, 0, 1, 0, 1, 1, 1] 14 := qR rfl rfl
theorem q16_1110100100100111 : QR 16 g16 [1, 1, 1, 0, 0, 1, 0, 0, 1, 0, 0, 1, 0, 1, 1, 1] 2 := qR rfl rfl
theorem q16_111010011 : QR 16 g16 [1, 1, 0, 0, 1, 0, 1, 1, 1] 3 := qR rfl rfl
theorem q16_1111 : QS 16 g16 [1, 1, 1, 1] := qS rfl
theorem q16_11110 : QR 16 g16 [0, 1, 1, 1, 1] 2 := qR rfl rfl
theorem q16_11111 : QT 16 g16 [1, 1, 1, 1, 1] := qT rfl
theorem q17_ : QS 17 g17 [] := qS rfl
theorem q17_0 : QR 17 g17 [0] 1 := qR rfl rfl
theorem q17_1 : QS 17 g17 [1] := qS rfl
theorem q17_10 : QS 17 g17 [0, 1] := qS rfl
theorem q17_100 : QR 17 g17 [0, 0, 1] 1 := qR rfl rfl
theorem q17_101 : QC 17 g17 [1, 0, 1] 3 := qC rfl
theorem q17_1010 : QS 17 g17 [0, 1, 0, 1] := qS rfl
theorem q17_10100 : QR 17 g17 [0, 0, 1, 0, 1] 1 := qR rfl rfl
theorem q17_10101 : QT 17 g17 [1, 0, 1, 0, 1] := qT rfl
theorem q17_1011 : QK 17 g17 [1, 1, 0, 1] := qK rfl
theorem q17_11 : QS 17 g17 [1, 1] := qS rfl
theorem q17_110 : QR 17 g17 [0, 1, 1] 1 := qR rfl rfl
theorem q17_111 : QT 17 g17 [1, 1, 1] := qT rfl
theorem q18_ : QS 18 g18 [] := qS rfl
theorem q18_0 : QR 18 g18 [0] 1 := qR rfl rfl
theorem q18_1 : QS 18 g18 [1] := qS rfl
theorem q18_10 : QS 18 g18 [0, 1] := qS rfl
theorem q18_100 : QR 18 g18 [0, 0, 1] 5 := qR rfl rfl
theorem q18_101 : QC 18 g18 [1, 0, 1] 10 := qC rfl
theorem q18_1010 : QS 18 g18 [0, 1, 0, 1] := qS rfl
theorem q18_10100 : QR 18 g18 [0, 0, 1, 0, 1] 1 := qR rfl rfl
theorem q18_10101 : QT 18 g18 [1, 0, 1, 0, 1] := qT rfl
theorem q18_1011 : QK 18 g18 [1, 1, 0, 1] := qK rfl
theorem q18_11 : QS 18 g18 [1, 1] := qS rfl
theorem q18_110 : QS 18 g18 [0, 1, 1] := qS rfl
theorem q18_1100 : QR 18 g18 [0, 0, 1, 1] 1 := qR rfl rfl
theorem q18_1101 : QB 18 g18 [1, 0, 1, 1] 0 := qB rfl
theorem q18_11010 : QL 18 g18 [0, 1, 0, 1, 1] 4 := qL rfl rfl
theorem q18_110100 : QS 18 g18 [0, 0, 1, 0, 1, 1] := qS rfl
theorem q18_1101000 : QS 18 g18 [0, 0, 0, 1, 0, 1, 1] := qS rfl
theorem q18_11010000 : QR 18 g18 [0, 0, 0, 0, 1, 0, 1, 1] 4 := qR rfl rfl
theorem q18_11010001 : QC 18 g18 [1, 0, 0, 0, 1, 0, 1, 1] 14 := qC rfl
theorem q18_110100010 : QK 18 g18 [0, 1, 0, 0, 0, 1, 0, 1, 1] := qK rfl
theorem q18_110100011 : QX 18 g18 [1, 1, 0, 0, 0, 1, 0, 1, 1] 0 := qX rfl
theorem q18_1101001 : QS 18 g18 [1, 0, 0, 1, 0, 1, 1] := qS rfl
theorem q18_11010010 : QB 18 g18 [0, 1, 0, 0, 1, 0, 1, 1] 1 := qB rfl
theorem q18_110100100 : QS 18 g18 [0, 0, 1, 0, 0, 1, 0, 1, 1] := qS rfl
theorem q18_1101001000 : QD 18 g18 [0, 0, 0, 1, 0, 0, 1, 0, 1, 1] 10 := qD rfl rfl
theorem q18_1101001001 : QC 18 g18 [1, 0, 0, 1, 0, 0, 1, 0, 1, 1] 26 := qC rfl
theorem q18_11010010010 : QS 18 g18 [0, 1, 0, 0, 1, 0, 0, 1, 0, 1, 1] := qS rfl
theorem q18_110100100100 : QR 18 g18 [0, 0, 1, 0, 0, 1, 0, 0, 1, 0, 1, 1] 1 := qR rfl rfl
theorem q18_110100100101 : QT 18 g18 [1, 0, 1, 0, 0, 1, 0, 0, 1, 0, 1, 1] := qT rfl
theorem q18_11010010011 : QK 18 g18 [1, 1, 0, 0, 1, 0, 0, 1, 0, 1, 1] := qK rfl
theorem q18_11010011 : QR 18 g18 [1, 1, 0, 0, 1, 0, 1, 1] 3 := qR rfl rfl
theorem q18_111 : QS 18 g18 [1, 1, 1] := qS rfl
theorem q18_1110 : QR 18 g18 [0, 1, 1, 1] 1 := qR rfl rfl
theorem q18_1111 : QT 18 g18 [1, 1, 1, 1] := qT rfl
theorem q19_ : QS 19 g19 [] := qS rfl
theorem q19_0 : QR 19 g19 [0] 1 := qR rfl rfl
theorem q19_1 : QS 19 g19 [1] := qS rfl
theorem q19_10 : QS 19 g19 [0, 1] := qS rfl
theorem q19_100 : QR 19 g19 [0, 0, 1] 5 := qR rfl rfl
theorem q19_101 : QC 19 g19 [1, 0, 1] 10 := qC rfl
theorem q19_1010 : QS 19 g19 [0, 1, 0, 1] := qS rfl
theorem q19_10100 : QR 19 g19 [0, 0, 1, 0, 1] 1 := qR rfl rfl
theorem q19_10101 : QT 19 g19 [1, 0, 1, 0, 1] := qT rfl
theorem q19_1011 : QK 19 g19 [1, 1, 0, 1] := qK rfl
theorem q19_11 : QS 19 g19 [1, 1] := qS rfl
theorem q19_110 : QS 19 g19 [0, 1, 1] := qS rfl
theorem q19_1100 : QR 19 g19 [0, 0, 1, 1] 1 := qR rfl rfl
theorem q19_1101 : QB 19 g19 [1, 0, 1, 1] 0 := qB rfl
theorem q19_11010 : QL 19 g19 [0, 1, 0, 1, 1] 4 := qL rfl rfl
theorem q19_110100 : QS 19 g19 [0, 0, 1, 0, 1, 1] := qS rfl
theorem q19_1101000 : QS 19 g19 [0, 0, 0, 1, 0, 1, 1] := qS rfl
theorem q19_11010000 : QR 19 g19 [0, 0, 0, 0, 1, 0, 1, 1] 4 := qR rfl rfl
theorem q19_11010001 : QC 19 g19 [1, 0, 0, 0, 1, 0, 1, 1] 14 := qC rfl
theorem q19_110100010 : QK 19 g19 [0, 1, 0, 0, 0, 1, 0, 1, 1] := qK rfl
theorem q19_110100011 : QX 19 g19 [1, 1, 0, 0, 0, 1, 0, 1, 1] 0 := qX rfl
theorem q19_1101001 : QS 19 g19 [1, 0, 0, 1, 0, 1, 1] := qS rfl
theorem q19_11010010 : QB 19 g19 [0, 1, 0, 0, 1, 0, 1, 1] 1 := qB rfl
theorem q19_110100100 : QS 19 g19 [0, 0, 1, 0, 0, 1, 0, 1, 1] := qS rfl
theorem q19_1101001000 : QD 19 g19 [0, 0, 0, 1, 0, 0, 1, 0, 1, 1] 10 := qD rfl rfl
theorem q19_1101001001 : QC 19 g19 [1, 0, 0, 1, 0, 0, 1, 0, 1, 1] 26 := qC rfl
theorem q19_11010010010 : QS 19 g19 [0, 1, 0, 0, 1, 0, 0, 1, 0, 1, 1] := qS rfl
theorem q19_110100100100 : QR 19 g19 [0, 0, 1, 0, 0, 1, 0, 0, 1, 0, 1, 1] 1 := qR rfl rfl
theorem q19_110100100101 : QT 19 g19 [1, 0, 1, 0, 0, 1, 0, 0, 1, 0, 1, 1] := qT rfl
theorem q19_11010010011 : QK 19 g19 [1, 1, 0, 0, 1, 0, 0, 1, 0, 1, 1] := qK rfl
theorem q19_11010011 : QR 19 g19 [1, 1, 0, 0, 1, 0, 1, 1] 3 := qR rfl rfl
theorem q19_111 : QS 19 g19 [1, 1, 1] := qS rfl
theorem q19_1110 : QR 19 g19 [0, 1, 1, 1] 1 := qR rfl rfl
theorem q19_1111 : QT 19 g19 [1, 1, 1, 1] := qT rfl
theorem q20_ : QS 20 g20 [] := qS rfl
theorem q20_0 : QR 20 g20 [0] 2 := qR rfl rfl
theorem q20_1 : QS 20 g20 [1] := qS rfl
theorem q20_10 : QR 20 g20 [0, 1] 6 := qR rfl rfl
theorem q20_11 : QS 20 g20 [1, 1] := qS rfl
theorem q20_110 : QS 20 g20 [0, 1, 1] := qS rfl
theorem q20_1100 : QR 20 g20 [0, 0, 1, 1] 2 := qR rfl rfl
theorem q20_1101 : QC 20 g20 [1, 0, 1, 1] 11 := qC rfl
theorem q20_11010 : QS 20 g20 [0, 1, 0, 1, 1] := qS rfl
theorem q20_110100 : QR 20 g20 [0, 0, 1, 0, 1, 1] 1 := qR rfl rfl
theorem q20_110101 : QT 20 g20 [1, 0, 1, 0, 1, 1] := qT rfl
theorem q20_11011 : QK 20 g20 [1, 1, 0, 1, 1] := qK rfl
theorem q20_111 : QS 20 g20 [1, 1, 1] := qS rfl
theorem q20_1110 : QR 20 g20 [0, 1, 1, 1] 5 := qR rfl rfl
theorem q20_1111 : QS 20 g20 [1, 1, 1, 1] := qS rfl
theorem q20_11110 : QS 20 g20 [0, 1, 1, 1, 1] := qS rfl
theorem q20_111100 : QR 20 g20 [0, 0, 1, 1, 1, 1] 2 := qR rfl rfl
theorem q20_111101 : QC 20 g20 [1, 0, 1, 1, 1, 1] 17 := qC rfl
theorem q20_1111010 : QS 20 g20 [0, 1, 0, 1, 1, 1, 1] := qS rfl
theorem q20_11110100 : QR 20 g20 [0, 0, 1, 0, 1, 1, 1, 1] 1 := qR rfl rfl
theorem q20_11110101 : QT 20 g20 [1, 0, 1, 0, 1, 1, 1, 1] := qT rfl
theorem q20_1111011 : QK 20 g20 [1, 1, 0, 1, 1, 1, 1] := qK rfl
theorem q20_11111 : QS 20 g20 [1, 1, 1, 1, 1] := qS rfl
theorem q20_111110 : QR 20 g20 [0, 1, 1, 1, 1, 1] 2 := qR rfl rfl
theorem q20_111111 : QT 20 g20 [1, 1, 1, 1, 1, 1] := qT rfl
theorem q21_ : QS 21 g21 [] := qS rfl
theorem q21_0 : QR 21 g21 [0] 2 := qR rfl rfl
theorem q21_1 : QS 21 g21 [1] := qS rfl
theorem q21_10 : QR 21 g21 [0, 1] 7 := qR rfl rfl
theorem q21_11 : QS 21 g21 [1, 1] := qS rfl
theorem q21_110 : QR 21 g21 [0, 1, 1] 8 := qR rfl rfl
theorem q21_111 : QS 21 g21 [1, 1, 1] := qS rfl
theorem q21_1110 : QS 21 g21 [0, 1, 1, 1] := qS rfl
theorem q21_11100 : QR 21 g21 [0, 0, 1, 1, 1] 18 := qR rfl rfl
theorem q21_11101 : QC 21 g21 [1, 0, 1, 1, 1] 39 := qC rfl
theorem q21_111010 : QS 21 g21 [0, 1, 0, 1, 1, 1] := qS rfl
theorem q21_1110100 : QR 21 g21 [0, 0, 1, 0, 1, 1, 1] 1 := qR rfl rfl
theorem q21_1110101 : QT 21 g21 [1, 0, 1, 0, 1, 1, 1] := qT rfl
theorem q21_111011 : QK 21 g21 [1, 1, 0, 1, 1, 1] := qK rfl
theorem q21_1111 : QS 21 g21 [1, 1, 1, 1] := qS rfl
theorem q21_11110 : QS 21 g21 [0, 1, 1, 1, 1] := qS rfl
theorem q21_111100 : QR 21 g21 [0, 0, 1, 1, 1, 1] 1 := qR rfl rfl
theorem q21_111101 : QB 21 g21 [1, 0, 1, 1, 1, 1] 0 := qB rfl
theorem q21_1111010 : QL 21 g21 [0, 1, 0, 1, 1, 1, 1] 6 := qL rfl rfl
theorem q21_11110100 : QS 21 g21 [0, 0, 1, 0, 1, 1, 1, 1] := qS rfl
theorem q21_111101000 : QS 21 g21 [0, 0, 0, 1, 0, 1, 1, 1, 1] := qS rfl
theorem q21_1111010000 : QR 21 g21 [0, 0, 0, 0, 1, 0, 1, 1, 1, 1] 5 := qR rfl rfl
theorem q21_1111010001 : QC 21 g21 [1, 0, 0, 0, 1, 0, 1, 1, 1, 1] 44 := qC rfl
theorem q21_11110100010 : QK 21 g21 [0, 1, 0, 0, 0, 1, 0, 1, 1, 1, 1] := qK rfl
theorem q21_11110100011 : QX 21 g21 [1, 1, 0, 0, 0, 1, 0, 1, 1, 1, 1] 0 := qX rfl
theorem q21_111101001 : QS 21 g21 [1, 0, 0, 1, 0, 1, 1, 1, 1] := qS rfl
theorem q21_1111010010 : QB 21 g21 [0, 1, 0, 0, 1, 0, 1, 1, 1, 1] 1 := qB rfl
theorem q21_11110100100 : QS 21 g21 [0, 0, 1, 0, 0, 1, 0, 1, 1, 1, 1] := qS rfl
theorem q21_111101001000 : QS 21 g21 [0, 0, 0, 1, 0, 0, 1, 0, 1, 1, 1, 1] := qS rfl
theorem q21_1111010010000 : QR 21 g21 [0, 0, 0, 0, 1, 0, 0, 1, 0, 1, 1, 1, 1] 9 := qR rfl rfl
theorem q21_1111010010001 : QC 21 g21 [1, 0, 0, 0, 1, 0, 0, 1, 0, 1, 1, 1, 1] 55 := qC rfl
theorem q21_11110100100010 : QS 21 g21 [0, 1, 0, 0, 0, 1, 0, 0, 1, 0, 1, 1, 1, 1] := qS rfl
theorem q21_111101001000100 : QR 21 g21 [0, 0, 1, 0, 0, 0, 1, 0, 0, 1, 0, 1, 1, 1, 1] 1 := qR rfl rfl
theorem q21_111101001000101 : QT 21 g21 [1, 0, 1, 0, 0, 0, 1, 0, 0, 1, 0, 1, 1, 1, 1] := qT rfl
theorem q21_11110100100011 : QK 21 g21 [1, 1, 0, 0, 0, 1, 0, 0, 1, 0, 1, 1, 1, 1] := qK rfl
theorem q21_111101001001 : QS 21 g21 [1, 0, 0, 1, 0, 0, 1, 0, 1, 1, 1, 1] := qS rfl
theorem q21_1111010010010 : QD 21 g21 [0, 1, 0, 0, 1, 0, 0, 1, 0, 1, 1, 1, 1] 11 := qD rfl rfl
theorem q21_1111010010011 : QS 21 g21 [1, 1, 0, 0, 1, 0, 0, 1, 0, 1, 1, 1, 1] := qS rfl
theorem q21_11110100100110 : QR 21 g21 [0, 1, 1, 0, 0, 1, 0, 0, 1, 0, 1, 1, 1, 1] 13 := qR rfl rfl
theorem q21_11110100100111 : QS 21 g21 [1, 1, 1, 0, 0, 1, 0, 0, 1, 0, 1, 1, 1, 1] := qS rfl
theorem q21_111101001001110 : QR 21 g21 [0, 1, 1, 1, 0, 0, 1, 0, 0, 1, 0, 1, 1, 1, 1] 13 := qR rfl rfl
theorem q21_111101001001111 : QC 21 g21 [1, 1, 1, 1, 0, 0, 1, 0, 0, 1, 0, 1, 1, 1, 1] 90 := qC rfl
theorem q21_1111010010011110 : QS 21 g21 [0, 1, 1, 1, 1, 0, 0, 1, 0, 0, 1, 0, 1, 1, 1, 1] := qS rfl
theorem q21_11110100100111100 : QR 21 g21 [0, 0, 1, 1, 1, 1, 0, 0, 1, 0, 0, 1, 0, 1, 1, 1, 1] 1 := qR rfl rfl
theorem q21_11110100100111101 : QT 21 g21 [1, 0, 1, 1, 1, 1, 0, 0, 1, 0, 0, 1, 0, 1, 1, 1, 1] := qT rfl
theorem q21_1111010010011111 : QK 21 g21 [1, 1, 1, 1, 1, 0, 0, 1, 0, 0, 1, 0, 1, 1, 1, 1] := qK rfl
theorem q21_1111010011 : QR 21 g21 [1, 1, 0, 0, 1, 0, 1, 1, 1, 1] 3 := qR rfl rfl
theorem q21_11111 : QS 21 g21 [1, 1, 1, 1, 1] := qS rfl
theorem q21_111110 : QR 21 g21 [0, 1, 1, 1, 1, 1] 1 := qR rfl rfl
theorem q21_111111 : QT 21 g21 [1, 1, 1, 1, 1, 1] := qT rfl
theorem q22_ : QS 22 g22 [] := qS rfl
theorem q22_0 : QR 22 g22 [0] 1 := qR rfl rfl
theorem q22_1 : QS 22 g22 [1] := qS rfl
theorem q22_10 : QR 22 g22 [0, 1] 9 := qR rfl rfl
theorem q22_11 : QT 22 g22 [1, 1] := qT rfl
theorem q23_ : QS 23 g23 [] := qS rfl
theorem q23_0 : QR 23 g23 [0] 1 := qR rfl rfl
theorem q23_1 : QS 23 g23 [1] := qS rfl
theorem q23_10 : QR 23 g23 [0, 1] 3 := qR rfl rfl
theorem q23_11 : QT 23 g23 [1, 1] := qT rfl
theorem q24_ : QS 24 g24 [] := qS rfl
theorem q24_0 : QR 24 g24 [0] 2 := qR rfl rfl
theorem q24_1 : QS 24 g24 [1] := qS rfl
theorem q24_10 : QR 24 g24 [0, 1] 1 := qR rfl rfl
theorem q24_11 : QS 24 g24 [1, 1] := qS rfl
theorem q24_110 : QR 24 g24 [0, 1, 1] 4 := qR rfl rfl
theorem q24_111 : QS 24 g24 [1, 1, 1] := qS rfl
theorem q24_1110 : QR 24 g24 [0, 1, 1, 1] 4 := qR rfl rfl
theorem q24_1111 : QS 24 g24 [1, 1, 1, 1] := qS rfl
theorem q24_11110 : QR 24 g24 [0, 1, 1, 1, 1] 5 := qR rfl rfl
theorem q24_11111 : QS 24 g24 [1, 1, 1, 1, 1] := qS rfl
theorem q24_111110 : QR 24 g24 [0, 1, 1, 1, 1, 1] 2 := qR rfl rfl
theorem q24_111111 : QT 24 g24 [1, 1, 1, 1, 1, 1] := qT rfl
theorem q25_ : QS 25 g25 [] := qS rfl
theorem q25_0 : QR 25 g25 [0] 2 := qR rfl rfl
theorem q25_1 : QS 25 g25 [1] := qS rfl
theorem q25_10 : QR 25 g25 [0, 1] 1 := qR rfl rfl
theorem q25_11 : QS 25 g25 [1, 1] := qS rfl
theorem q25_110 : QR 25 g25 [0, 1, 1] 4 := qR rfl rfl
theorem q25_111 : QS 25 g25 [1, 1, 1] := qS rfl
theorem q25_1110 : QR 25 g25 [0, 1, 1, 1] 4 := qR rfl rfl
theorem q25_1111 : QS 25 g25 [1, 1, 1, 1] := qS rfl
theorem q25_11110 : QR 25 g25 [0, 1, 1, 1, 1] 4 := qR rfl rfl
theorem q25_11111 : QS 25 g25 [1, 1, 1, 1, 1] := qS rfl
theorem q25_111110 : QR 25 g25 [0, 1, 1, 1, 1, 1] 2 := qR rfl rfl
theorem q25_111111 : QT 25 g25 [1, 1, 1, 1, 1, 1] := qT rfl
theorem q26_ : QS 26 g26 [] := qS rfl
theorem q26_0 : QR 26 g26 [0] 1 := qR rfl rfl
theorem q26_1 : QS 26 g26 [1] := qS rfl
theorem q26_10 : QR 26 g26 [0, 1] 9 := qR rfl rfl
theorem q26_11 : QT 26 g26 [1, 1] := qT rfl
theorem q27_ : QS 27 g27 [] := qS rfl
theorem q27_0 : QR 27 g27 [0] 1 := qR rfl rfl
theorem q27_1 : QS 27 g27 [1] := qS rfl
theorem q27_10 : QS 27 g27 [0, 1] := qS rfl
theorem q27_100 : QR 27 g27 [0, 0, 1] 3 := qR rfl rfl
theorem q27_101 : QB 27 g27 [1, 0, 1] 0 := qB rfl
theorem q27_1010 : QL 27 g27 [0, 1, 0, 1] 2 := qL rfl rfl
theorem q27_10100 : QS 27 g27 [0, 0, 1, 0, 1] := qS rfl
theorem q27_101000 : QR 27 g27 [0, 0, 0, 1, 0, 1] 1 := qR rfl rfl
theorem q27_101001 : QS 27 g27 [1, 0, 0, 1, 0, 1] := qS rfl
theorem q27_1010010 : QC 27 g27 [0, 1, 0, 0, 1, 0, 1] 10 := qC rfl
theorem q27_10100100 : QK 27 g27 [0, 0, 1, 0, 0, 1, 0, 1] := qK rfl
theorem q27_10100101 : QX 27 g27 [1, 0, 1, 0, 0, 1, 0, 1] 0 := qX rfl
theorem q27_1010011 : QS 27 g27 [1, 1, 0, 0, 1, 0, 1] := qS rfl
theorem q27_10100110 : QB 27 g27 [0, 1, 1, 0, 0, 1, 0, 1] 1 := qB rfl
theorem q27_101001100 : QS 27 g27 [0, 0, 1, 1, 0, 0, 1, 0, 1] := qS rfl
theorem q27_1010011000 : QR 27 g27 [0, 0, 0, 1, 1, 0, 0, 1, 0, 1] 3 := qR rfl rfl
theorem q27_1010011001 : QS 27 g27 [1, 0, 0, 1, 1, 0, 0, 1, 0, 1] := qS rfl
theorem q27_10100110010 : QR 27 g27 [0, 1, 0, 0, 1, 1, 0, 0, 1, 0, 1] 5 := qR rfl rfl
theorem q27_10100110011 : QC 27 g27 [1, 1, 0, 0, 1, 1, 0, 0, 1, 0, 1] 17 := qC rfl
theorem q27_101001100110 : QS 27 g27 [0, 1, 1, 0, 0, 1, 1, 0, 0, 1, 0, 1] := qS rfl
theorem q27_1010011001100 : QR 27 g27 [0, 0, 1, 1, 0, 0, 1, 1, 0, 0, 1, 0, 1] 1 := qR rfl rfl
theorem q27_1010011001101 : QT 27 g27 [1, 0, 1, 1, 0, 0, 1, 1, 0, 0, 1, 0, 1] := qT rfl
theorem q27_101001100111 : QK 27 g27 [1, 1, 1, 0, 0, 1, 1, 0, 0, 1, 0, 1] := qK rfl
theorem q27_10100111 : QR 27 g27 [1, 1, 1, 0, 0, 1, 0, 1] 2 := qR rfl rfl
theorem q27_11 : QS 27 g27 [1, 1] := qS rfl
theorem q27_110 : QR 27 g27 [0, 1, 1] 1 := qR rfl rfl
theorem q27_111 : QT 27 g27 [1, 1, 1] := qT rfl
theorem q28_ : QS 28 g28 [] := qS rfl
theorem q28_0 : QR 28 g28 [0] 2 := qR rfl rfl
theorem q28_1 : QS 28 g28 [1] := qS rfl
theorem q28_10 : QS 28 g28 [0, 1] := qS rfl
theorem q28_100 : QR 28 g28 [0, 0, 1] 2 := qR rfl rfl
theorem q28_101 : QB 28 g28 [1, 0, 1] 0 := qB rfl
theorem q28_1010 : QS 28 g28 [0, 1, 0, 1] := qS rfl
theorem q28_10100 : QR 28 g28 [0, 0, 1, 0, 1] 2 := qR rfl rfl
theorem q28_10101 : QC 28 g28 [1, 0, 1, 0, 1] 7 := qC rfl
theorem q28_101010 : QS 28 g28 [0, 1, 0, 1, 0, 1] := qS rfl
theorem q28_1010100 : QR 28 g28 [0, 0, 1, 0, 1, 0, 1] 4 := qR rfl rfl
theorem q28_1010101 : QT 28 g28 [1, 0, 1, 0, 1, 0, 1] := qT rfl
theorem q28_101011 : QS 28 g28 [1, 1, 0, 1, 0, 1] := qS rfl
theorem q28_1010110 : QR 28 g28 [0, 1, 1, 0, 1, 0, 1] 2 := qR rfl rfl
theorem q28_1010111 : QC 28 g28 [1, 1, 1, 0, 1, 0, 1] 12 := qC rfl
theorem q28_10101110 : QS 28 g28 [0, 1, 1, 1, 0, 1, 0, 1] := qS rfl
theorem q28_101011100 : QR 28 g28 [0, 0, 1, 1, 1, 0, 1, 0, 1] 4 := qR rfl rfl
theorem q28_101011101 : QT 28 g28 [1, 0, 1, 1, 1, 0, 1, 0, 1] := qT rfl
theorem q28_10101111 : QS 28 g28 [1, 1, 1, 1, 0, 1, 0, 1] := qS rfl
theorem q28_101011110 : QS 28 g28 [0, 1, 1, 1, 1, 0, 1, 0, 1] := qS rfl
theorem q28_1010111100 : QR 28 g28 [0, 0, 1, 1, 1, 1, 0, 1, 0, 1] 2 := qR rfl rfl
theorem q28_1010111101 : QC 28 g28 [1, 0, 1, 1, 1, 1, 0, 1, 0, 1] 17 := qC rfl
theorem q28_10101111010 : QK 28 g28 [0, 1, 0, 1, 1, 1, 1, 0, 1, 0, 1] := qK rfl
theorem q28_10101111011 : QS 28 g28 [1, 1, 0, 1, 1, 1, 1, 0, 1, 0, 1] := qS rfl
theorem q28_101011110110 : QR 28 g28 [0, 1, 1, 0, 1, 1, 1, 1, 0, 1, 0, 1] 2 := qR rfl rfl
theorem q28_101011110111 : QC 28 g28 [1, 1, 1, 0, 1, 1, 1, 1, 0, 1, 0, 1] 17 := qC rfl
theorem q28_1010111101110 : QK 28 g28 [0, 1, 1, 1, 0, 1, 1, 1, 1, 0, 1, 0, 1] := qK rfl
theorem q28_1010111101111 : QS 28 g28 [1, 1, 1, 1, 0, 1, 1, 1, 1, 0, 1, 0, 1] := qS rfl
theorem q28_10101111011110 : QR 28 g28 [0, 1, 1, 1, 1, 0, 1, 1, 1, 1, 0, 1, 0, 1] 2 := qR rfl rfl
theorem q28_10101111011111 : QC 28 g28 [1, 1, 1, 1, 1, 0, 1, 1, 1, 1, 0, 1, 0, 1] 17 := qC rfl
theorem q28_101011110111110 : QK 28 g28 [0, 1, 1, 1, 1, 1, 0, 1, 1, 1, 1, 0, 1, 0, 1] := qK rfl
theorem q28_101011110111111 : QS 28 g28 [1, 1, 1, 1, 1, 1, 0, 1, 1, 1, 1, 0, 1, 0, 1] := qS rfl
theorem q28_1010111101111110 : QR 28 g28 [0, 1, 1, 1, 1, 1, 1, 0, 1, 1, 1, 1, 0, 1, 0, 1] 2 := qR rfl rfl
theorem q28_1010111101111111 : QC 28 g28 [1, 1, 1, 1, 1, 1, 1, 0, 1, 1, 1, 1, 0, 1, 0, 1] 17 := qC rfl
theorem q28_10101111011111110 : QK 28 g28 [0, 1, 1, 1, 1, 1, 1, 1, 0, 1, 1, 1, 1, 0, 1, 0, 1] := qK rfl
theorem q28_10101111011111111 : QS 28 g28 [1, 1, 1, 1, 1, 1, 1, 1, 0, 1, 1, 1, 1, 0, 1, 0, 1] := qS rfl
theorem q28_101011110111111110 : QR 28 g28 [0, 1, 1, 1, 1, 1, 1, 1, 1, 0, 1, 1, 1, 1, 0, 1, 0, 1] 2 := qR rfl rfl
theorem q28_101011110111111111 : QC 28 g28 [1, 1, 1, 1, 1, 1, 1, 1, 1, 0, 1, 1, 1, 1, 0, 1, 0, 1] 17 := qC rfl
theorem q28_1010111101111111110 : QK 28 g28 [0, 1, 1, 1, 1, 1, 1, 1, 1, 1, 0, 1, 1, 1, 1, 0, 1, 0, 1] := qK rfl
theorem q28_1010111101111111111 : QS 28 g28 [1, 1, 1, 1, 1, 1, 1, 1, 1, 1, 0, 1, 1, 1, 1, 0, 1, 0, 1] := qS rfl
theorem q28_10101111011111111110 : QR 28 g28 [0, 1, 1, 1, 1, 1, 1, 1, 1, 1, 1, 0, 1, 1, 1, 1, 0, 1, 0, 1] 2 := qR rfl rfl
theorem q28_10101111011111111111 : QC 28 g28 [1, 1, 1, 1, 1, 1, 1, 1, 1, 1, 1, 0, 1, 1, 1, 1, 0, 1, 0, 1] 17 := qC rfl
theorem q28_101011110111111111110 : QK 28 g28 [0, 1, 1, 1, 1, 1, 1, 1, 1, 1, 1, 1, 0, 1, 1, 1, 1, 0, 1, 0, 1] := qK rfl
theorem q28_101011110111111111111 : QR 28 g28 [1, 1, 1, 1, 1, 1, 1, 1, 1, 1, 1, 1, 0, 1, 1, 1, 1, 0, 1, 0, 1] 2 := qR rfl rfl
theorem q28_101011111 : QC 28 g28 [1, 1, 1, 1, 1, 0, 1, 0, 1] 17 := qC rfl
theorem q28_1010111110 : QS 28 g28 [0, 1, 1, 1, 1, 1, 0, 1, 0, 1] := qS rfl
theorem q28_10101111100 : QR 28 g28 [0, 0, 1, 1, 1, 1, 1, 0, 1, 0, 1] 4 := qR rfl rfl
theorem q28_10101111101 : QT 28 g28 [1, 0, 1, 1, 1, 1, 1, 0, 1, 0, 1] := qT rfl
theorem q28_1010111111 : QS 28 g28 [1, 1, 1, 1, 1, 1, 0, 1, 0, 1] := qS rfl
theorem q28_10101111110 : QR 28 g28 [0, 1, 1, 1, 1, 1, 1, 0, 1, 0, 1] 2 := qR rfl rfl
theorem q28_10101111111 : QC 28 g28 [1, 1, 1, 1, 1, 1, 1, 0, 1, 0, 1] 28 := qC rfl
theorem q28_101011111110 : QS 28 g28 [0, 1, 1, 1, 1, 1, 1, 1, 0, 1, 0, 1] := qS rfl
theorem q28_1010111111100 : QR 28 g28 [0, 0, 1, 1, 1, 1, 1, 1, 1, 0, 1, 0, 1] 9 := qR rfl rfl
theorem q28_1010111111101 : QS 28 g28 [1, 0, 1, 1, 1, 1, 1, 1, 1, 0, 1, 0, 1] := qS rfl
theorem q28_10101111111010 : QR 28 g28 [0, 1, 0, 1, 1, 1, 1, 1, 1, 1, 0, 1, 0, 1] 8 := qR rfl rfl
theorem q28_10101111111011 : QT 28 g28 [1, 1, 0, 1, 1, 1, 1, 1, 1, 1, 0, 1, 0, 1] := qT rfl
theorem q28_101011111111 : QK 28 g28 [1, 1, 1, 1, 1, 1, 1, 1, 0, 1, 0, 1] := qK rfl
theorem q28_11 : QS 28 g28 [1, 1] := qS rfl
theorem q28_110 : QR 28 g28 [0, 1, 1] 4 := qR rfl rfl
theorem q28_111 : QT 28 g28 [1, 1, 1] := qT rfl
theorem q29_ : QS 29 g29 [] := qS rfl
theorem q29_0 : QR 29 g29 [0] 3 := qR rfl rfl
theorem q29_1 : QS 29 g29 [1] := qS rfl
theorem q29_10 : QR 29 g29 [0, 1] 8 := qR rfl rfl
theorem q29_11 : QS 29 g29 [1, 1] := qS rfl
theorem q29_110 : QS 29 g29 [0, 1, 1] := qS rfl
theorem q29_1100 : QR 29 g29 [0, 0, 1, 1] 4 := qR rfl rfl
theorem q29_1101 : QB 29 g29 [1, 0, 1, 1] 0 := qB rfl
theorem q29_11010 : QL 29 g29 [0, 1, 0, 1, 1] 3 := qL rfl rfl
theorem q29_110100 : QS 29 g29 [0, 0, 1, 0, 1, 1] := qS rfl
theorem q29_1101000 : QR 29 g29 [0, 0, 0, 1, 0, 1, 1] 1 := qR rfl rfl
theorem q29_1101001 : QS 29 g29 [1, 0, 0, 1, 0, 1, 1] := qS rfl
theorem q29_11010010 : QC 29 g29 [0, 1, 0, 0, 1, 0, 1, 1] 20 := qC rfl
theorem q29_110100100 : QK 29 g29 [0, 0, 1, 0, 0, 1, 0, 1, 1] := qK rfl
theorem q29_110100101 : QX 29 g29 [1, 0, 1, 0, 0, 1, 0, 1, 1] 0 := qX rfl
theorem q29_11010011 : QS 29 g29 [1, 1, 0, 0, 1, 0, 1, 1] := qS rfl
theorem q29_110100110 : QB 29 g29 [0, 1, 1, 0, 0, 1, 0, 1, 1] 1 := qB rfl
theorem q29_1101001100 : QS 29 g29 [0, 0, 1, 1, 0, 0, 1, 0, 1, 1] := qS rfl
theorem q29_11010011000 : QR 29 g29 [0, 0, 0, 1, 1, 0, 0, 1, 0, 1, 1] 5 := qR rfl rfl
theorem q29_11010011001 : QS 29 g29 [1, 0, 0, 1, 1, 0, 0, 1, 0, 1, 1] := qS rfl
theorem q29_110100110010 : QR 29 g29 [0, 1, 0, 0, 1, 1, 0, 0, 1, 0, 1, 1] 7 := qR rfl rfl
theorem q29_110100110011 : QB 29 g29 [1, 1, 0, 0, 1, 1, 0, 0, 1, 0, 1, 1] 2 := qB rfl
theorem q29_1101001100110 : QS 29 g29 [0, 1, 1, 0, 0, 1, 1, 0, 0, 1, 0, 1, 1] := qS rfl
theorem q29_11010011001100 : QR 29 g29 [0, 0, 1, 1, 0, 0, 1, 1, 0, 0, 1, 0, 1, 1] 8 := qR rfl rfl
theorem q29_11010011001101 : QC 29 g29 [1, 0, 1, 1, 0, 0, 1, 1, 0, 0, 1, 0, 1, 1] 30 := qC rfl
theorem q29_110100110011010 : QS 29 g29 [0, 1, 0, 1, 1, 0, 0, 1, 1, 0, 0, 1, 0, 1, 1] := qS rfl
theorem q29_1101001100110100 : QR 29 g29 [0, 0, 1, 0, 1, 1, 0, 0, 1, 1, 0, 0, 1, 0, 1, 1] 6 := qR rfl rfl
theorem q29_1101001100110101 : QC 29 g29 [1, 0, 1, 0, 1, 1, 0, 0, 1, 1, 0, 0, 1, 0, 1, 1] 43 := qC rfl
theorem q29_11010011001101010 : QS 29 g29 [0, 1, 0, 1, 0, 1, 1, 0, 0, 1, 1, 0, 0, 1, 0, 1, 1] := qS rfl
theorem q29_110100110011010100 : QR 29 g29 [0, 0, 1, 0, 1, 0, 1, 1, 0, 0, 1, 1, 0, 0, 1, 0, 1, 1] 1 := qR rfl rfl
theorem q29_110100110011010101 : QT 29 g29 [1, 0, 1, 0, 1, 0, 1, 1, 0, 0, 1, 1, 0, 0, 1, 0, 1, 1] := qT rfl
theorem q29_11010011001101011 : QK 29 g29 [1, 1, 0, 1, 0, 1, 1, 0, 0, 1, 1, 0, 0, 1, 0, 1, 1] := qK rfl
theorem q29_110100110011011 : QS 29 g29 [1, 1, 0, 1, 1, 0, 0, 1, 1, 0, 0, 1, 0, 1, 1] := qS rfl
theorem q29_1101001100110110 : QR 29 g29 [0, 1, 1, 0, 1, 1, 0, 0, 1, 1, 0, 0, 1, 0, 1, 1] 4 := qR rfl rfl
theorem q29_1101001100110111 : QC 29 g29 [1, 1, 1, 0, 1, 1, 0, 0, 1, 1, 0, 0, 1, 0, 1, 1] 44 := qC rfl
theorem q29_11010011001101110 : QS 29 g29 [0, 1, 1, 1, 0, 1, 1, 0, 0, 1, 1, 0, 0, 1, 0, 1, 1] := qS rfl
theorem q29_110100110011011100 : QR 29 g29 [0, 0, 1, 1, 1, 0, 1, 1, 0, 0, 1, 1, 0, 0, 1, 0, 1, 1] 2 := qR rfl rfl
theorem q29_110100110011011101 : QC 29 g29 [1, 0, 1, 1, 1, 0, 1, 1, 0, 0, 1, 1, 0, 0, 1, 0, 1, 1] 49 := qC rfl
theorem q29_1101001100110111010 : QS 29 g29 [0, 1, 0, 1, 1, 1, 0, 1, 1, 0, 0, 1, 1, 0, 0, 1, 0, 1, 1] := qS rfl
theorem q29_11010011001101110100 : QR 29 g29 [0, 0, 1, 0, 1, 1, 1, 0, 1, 1, 0, 0, 1, 1, 0, 0, 1, 0, 1, 1] 1 := qR rfl rfl
theorem q29_11010011001101110101 : QT 29 g29 [1, 0, 1, 0, 1, 1, 1, 0, 1, 1, 0, 0, 1, 1, 0, 0, 1, 0, 1, 1] := qT rfl
theorem q29_1101001100110111011 : QK 29 g29 [1, 1, 0, 1, 1, 1, 0, 1, 1, 0, 0, 1, 1, 0, 0, 1, 0, 1, 1] := qK rfl
theorem q29_11010011001101111 : QS 29 g29 [1, 1, 1, 1, 0, 1, 1, 0, 0, 1, 1, 0, 0, 1, 0, 1, 1] := qS rfl
theorem q29_110100110011011110 : QR 29 g29 [0, 1, 1, 1, 1, 0, 1, 1, 0, 0, 1, 1, 0, 0, 1, 0, 1, 1] 4 := qR rfl rfl
theorem q29_110100110011011111 : QC 29 g29 [1, 1, 1, 1, 1, 0, 1, 1, 0, 0, 1, 1, 0, 0, 1, 0, 1, 1] 50 := qC rfl
theorem q29_1101001100110111110 : QS 29 g29 [0, 1, 1, 1, 1, 1, 0, 1, 1, 0, 0, 1, 1, 0, 0, 1, 0, 1, 1] := qS rfl
theorem q29_11010011001101111100 : QR 29 g29 [0, 0, 1, 1, 1, 1, 1, 0, 1, 1, 0, 0, 1, 1, 0, 0, 1, 0, 1, 1] 1 := qR rfl rfl
theorem q29_11010011001101111101 : QT 29 g29 [1, 0, 1, 1, 1, 1, 1, 0, 1, 1, 0, 0, 1, 1, 0, 0, 1, 0, 1, 1] := qT rfl
theorem q29_1101001100110111111 : QK 29 g29 [1, 1, 1, 1, 1, 1, 0, 1, 1, 0, 0, 1, 1, 0, 0, 1, 0, 1, 1] := qK rfl
theorem q29_110100111 : QR 29 g29 [1, 1, 1, 0, 0, 1, 0, 1, 1] 2 := qR rfl rfl
theorem q29_111 : QS 29 g29 [1, 1, 1] := qS rfl
theorem q29_1110 : QS 29 g29 [0, 1, 1, 1] := qS rfl
theorem q29_11100 : QR 29 g29 [0, 0, 1, 1, 1] 2 := qR rfl rfl
theorem q29_11101 : QB 29 g29 [1, 0, 1, 1, 1] 3 := qB rfl
theorem q29_111010 : QS 29 g29 [0, 1, 0, 1, 1, 1] := qS rfl
theorem q29_1110100 : QR 29 g29 [0, 0, 1, 0, 1, 1, 1] 2 := qR rfl rfl
theorem q29_1110101 : QC 29 g29 [1, 0, 1, 0, 1, 1, 1] 57 := qC rfl
theorem q29_11101010 : QR 29 g29 [0, 1, 0, 1, 0, 1, 1, 1] 2 := qR rfl rfl
theorem q29_11101011 : QS 29 g29 [1, 1, 0, 1, 0, 1, 1, 1] := qS rfl
theorem q29_111010110 : QR 29 g29 [0, 1, 1, 0, 1, 0, 1, 1, 1] 2 := qR rfl rfl
theorem q29_111010111 : QC 29 g29 [1, 1, 1, 0, 1, 0, 1, 1, 1] 59 := qC rfl
theorem q29_1110101110 : QR 29 g29 [0, 1, 1, 1, 0, 1, 0, 1, 1, 1] 2 := qR rfl rfl
theorem q29_1110101111 : QK 29 g29 [1, 1, 1, 1, 0, 1, 0, 1, 1, 1] := qK rfl
theorem q29_1111 : QS 29 g29 [1, 1, 1, 1] := qS rfl
theorem q29_11110 : QR 29 g29 [0, 1, 1, 1, 1] 7 := qR rfl rfl
theorem q29_11111 : QT 29 g29 [1, 1, 1, 1, 1] := qT rfl
theorem q30_ : QS 30 g30 [] := qS rfl
theorem q30_0 : QR 30 g30 [0] 3 := qR rfl rfl
theorem q30_1 : QS 30 g30 [1] := qS rfl
theorem q30_10 : QS 30 g30 [0, 1] := qS rfl
theorem q30_100 : QR 30 g30 [0, 0, 1] 24 := qR rfl rfl
theorem q30_101 : QC 30 g30 [1, 0, 1] 28 := qC rfl
theorem q30_1010 : QS 30 g30 [0, 1, 0, 1] := qS rfl
theorem q30_10100 : QR 30 g30 [0, 0, 1, 0, 1] 1 := qR rfl rfl
theorem q30_10101 : QT 30 g30 [1, 0, 1, 0, 1] := qT rfl
theorem q30_1011 : QK 30 g30 [1, 1, 0, 1] := qK rfl
theorem q30_11 : QS 30 g30 [1, 1] := qS rfl
theorem q30_110 : QS 30 g30 [0, 1, 1] := qS rfl
theorem q30_1100 : QR 30 g30 [0, 0, 1, 1] 3 := qR rfl rfl
theorem q30_1101 : QC 30 g30 [1, 0, 1, 1] 31 := qC rfl
theorem q30_11010 : QS 30 g30 [0, 1, 0, 1, 1] := qS rfl
theorem q30_110100 : QR 30 g30 [0, 0, 1, 0, 1, 1] 1 := qR rfl rfl
theorem q30_110101 : QT 30 g30 [1, 0, 1, 0, 1, 1] := qT rfl
theorem q30_11011 : QK 30 g30 [1, 1, 0, 1, 1] := qK rfl
theorem q30_111 : QS 30 g30 [1, 1, 1] := qS rfl
theorem q30_1110 : QR 30 g30 [0, 1, 1, 1] 23 := qR rfl rfl
theorem q30_1111 : QT 30 g30 [1, 1, 1, 1] := qT rfl
theorem q31_ : QS 31 g31 [] := qS rfl
theorem q31_0 : QR 31 g31 [0] 3 := qR rfl rfl
theorem q31_1 : QS 31 g31 [1] := qS rfl
theorem q31_10 : QS 31 g31 [0, 1] := qS rfl
theorem q31_100 : QR 31 g31 [0, 0, 1] 5 := qR rfl rfl
theorem q31_101 : QC 31 g31 [1, 0, 1] 9 := qC rfl
theorem q31_1010 : QS 31 g31 [0, 1, 0, 1] := qS rfl
theorem q31_10100 : QR 31 g31 [0, 0, 1, 0, 1] 1 := qR rfl rfl
theorem q31_10101 : QT 31 g31 [1, 0, 1, 0, 1] := qT rfl
theorem q31_1011 : QK 31 g31 [1, 1, 0, 1] := qK rfl
theorem q31_11 : QS 31 g31 [1, 1] := qS rfl
theorem q31_110 : QS 31 g31 [0, 1, 1] := qS rfl
theorem q31_1100 : QR 31 g31 [0, 0, 1, 1] 5 := qR rfl rfl
theorem q31_1101 : QC 31 g31 [1, 0, 1, 1] 14 := qC rfl
theorem q31_11010 : QS 31 g31 [0, 1, 0, 1, 1] := qS rfl
theorem q31_110100 : QR 31 g31 [0, 0, 1, 0, 1, 1] 1 := qR rfl rfl
theorem q31_110101 : QT 31 g31 [1, 0, 1, 0, 1, 1] := qT rfl
theorem q31_11011 : QK 31 g31 [1, 1, 0, 1, 1] := qK rfl
theorem q31_111 : QS 31 g31 [1, 1, 1] := qS rfl
theorem q31_1110 : QS 31 g31 [0, 1, 1, 1] := qS rfl
theorem q31_11100 : QR 31 g31 [0, 0, 1, 1, 1] 6 := qR rfl rfl
theorem q31_11101 : QC 31 g31 [1, 0, 1, 1, 1] 20 := qC rfl
theorem q31_111010 : QS 31 g31 [0, 1, 0, 1, 1, 1] := qS rfl
theorem q31_1110100 : QR 31 g31 [0, 0, 1, 0, 1, 1, 1] 1 := qR rfl rfl
theorem q31_1110101 : QT 31 g31 [1, 0, 1, 0, 1, 1, 1] := qT rfl
theorem q31_111011 : QK 31 g31 [1, 1, 0, 1, 1, 1] := qK rfl
theorem q31_1111 : QS 31 g31 [1, 1, 1, 1] := qS rfl
theorem q31_11110 : QR 31 g31 [0, 1, 1, 1, 1] 1 := qR rfl rfl
theorem q31_11111 : QT 31 g31 [1, 1, 1, 1, 1] := qT rfl
theorem q32_ : QS 32 g32 [] := qS rfl
theorem q32_0 : QR 32 g32 [0] 3 := qR rfl rfl
theorem q32_1 : QS 32 g32 [1] := qS rfl
theorem q32_10 : QS 32 g32 [0, 1] := qS rfl
theorem q32_100 : QR 32 g32 [0, 0, 1] 5 := qR rfl rfl
theorem q32_101 : QC 32 g32 [1, 0, 1] 9 := qC rfl
theorem q32_1010 : QS 32 g32 [0, 1, 0, 1] := qS rfl
theorem q32_10100 : QR 32 g32 [0, 0, 1, 0, 1] 1 := qR rfl rfl
theorem q32_10101 : QT 32 g32 [1, 0, 1, 0, 1] := qT rfl
theorem q32_1011 : QK 32 g32 [1, 1, 0, 1] := qK rfl
theorem q32_11 : QS 32 g32 [1, 1] := qS rfl
theorem q32_110 : QS 32 g32 [0, 1, 1] := qS rfl
theorem q32_1100 : QR 32 g32 [0, 0, 1, 1] 5 := qR rfl rfl
theorem q32_1101 : QC 32 g32 [1, 0, 1, 1] 14 := qC rfl
theorem q32_11010 : QS 32 g32 [0, 1, 0, 1, 1] := qS rfl
theorem q32_110100 : QR 32 g32 [0, 0, 1, 0, 1, 1] 1 := qR rfl rfl
theorem q32_110101 : QT 32 g32 [1, 0, 1, 0, 1, 1] := qT rfl
theorem q32_11011 : QK 32 g32 [1, 1, 0, 1, 1] := qK rfl
theorem q32_111 : QS 32 g32 [1, 1, 1] := qS rfl
theorem q32_1110 : QS 32 g32 [0, 1, 1, 1] := qS rfl
theorem q32_11100 : QR 32 g32 [0, 0, 1, 1, 1] 5 := qR rfl rfl
theorem q32_11101 : QC 32 g32 [1, 0, 1, 1, 1] 19 := qC rfl
theorem q32_111010 : QS 32 g32 [0, 1, 0, 1, 1, 1] := qS rfl
theorem q32_1110100 : QR 32 g32 [0, 0, 1, 0, 1, 1, 1] 1 := qR rfl rfl
theorem q32_1110101 : QT 32 g32 [1, 0, 1, 0, 1, 1, 1] := qT rfl
theorem q32_111011 : QK 32 g32 [1, 1, 0, 1, 1, 1] := qK rfl
theorem q32_1111 : QS 32 g32 [1, 1, 1, 1] := qS rfl
theorem q32_11110 : QR 32 g32 [0, 1, 1, 1, 1] 1 := qR rfl rfl
theorem q32_11111 : QT 32 g32 [1, 1, 1, 1, 1] := qT rfl
theorem q33_ : QS 33 g33 [] := qS rfl
theorem q33_0 : QR 33 g33 [0] 1 := qR rfl rfl
theorem q33_1 : QS 33 g33 [1] := qS rfl
theorem q33_10 : QR 33 g33 [0, 1] 5 := qR rfl rfl
theorem q33_11 : QS 33 g33 [1, 1] := qS rfl
theorem q33_110 : QS 33 g33 [0, 1, 1] := qS rfl
theorem q33_1100 : QR 33 g33 [0, 0, 1, 1] 2 := qR rfl rfl
theorem q33_1101 : QC 33 g33 [1, 0, 1, 1] 10 := qC rfl
theorem q33_11010 : QS 33 g33 [0, 1, 0, 1, 1] := qS rfl
theorem q33_110100 : QR 33 g33 [0, 0, 1, 0, 1, 1] 1 := qR rfl rfl
theorem q33_110101 : QT 33 g33 [1, 0, 1, 0, 1, 1] := qT rfl
theorem q33_11011 : QK 33 g33 [1, 1, 0, 1, 1] := qK rfl
theorem q33_111 : QS 33 g33 [1, 1, 1] := qS rfl
theorem q33_1110 : QR 33 g33 [0, 1, 1, 1] 2 := qR rfl rfl
theorem q33_1111 : QT 33 g33 [1, 1, 1, 1] := qT rfl
theorem q34_ : QS 34 g34 [] := qS rfl
theorem q34_0 : QR 34 g34 [0] 2 := qR rfl rfl
theorem q34_1 : QS 34 g34 [1] := qS rfl
theorem q34_10 : QS 34 g34 [0, 1] := qS rfl
theorem q34_100 : QR 34 g34 [0, 0, 1] 1 := qR rfl rfl
theorem q34_101 : QB 34 g34 [1, 0, 1] 0 := qB rfl
theorem q34_1010 : QS 34 g34 [0, 1, 0, 1] := qS rfl
theorem q34_10100 : QS 34 g34 [0, 0, 1, 0, 1] := qS rfl
theorem q34_101000 : QR 34 g34 [0, 0, 0, 1, 0, 1] 2 := qR rfl rfl
theorem q34_101001 : QC 34 g34 [1, 0, 0, 1, 0, 1] 5 := qC rfl
theorem q34_1010010 : QK 34 g34 [0, 1, 0, 0, 1, 0, 1] := qK rfl
theorem q34_1010011 : QS 34 g34 [1, 1, 0, 0, 1, 0, 1] := qS rfl
theorem q34_10100110 : QR 34 g34 [0, 1, 1, 0, 0, 1, 0, 1] 2 := qR rfl rfl
theorem q34_10100111 : QC 34 g34 [1, 1, 1, 0, 0, 1, 0, 1] 5 := qC rfl
theorem q34_101001110 : QK 34 g34 [0, 1, 1, 1, 0, 0, 1, 0, 1] := qK rfl
theorem q34_101001111 : QS 34 g34 [1, 1, 1, 1, 0, 0, 1, 0, 1] := qS rfl
theorem q34_1010011110 : QR 34 g34 [0, 1, 1, 1, 1, 0, 0, 1, 0, 1] 2 := qR rfl rfl
theorem q34_1010011111 : QC 34 g34 [1, 1, 1, 1, 1, 0, 0, 1, 0, 1] 5 := qC rfl
theorem q34_10100111110 : QK 34 g34 [0, 1, 1, 1, 1, 1, 0, 0, 1, 0, 1] := qK rfl
theorem q34_10100111111 : QS 34 g34 [1, 1, 1, 1, 1, 1, 0, 0, 1, 0, 1] := qS rfl
theorem q34_101001111110 : QR 34 g34 [0, 1, 1, 1, 1, 1, 1, 0, 0, 1, 0, 1] 2 := qR rfl rfl
theorem q34_101001111111 : QC 34 g34 [1, 1, 1, 1, 1, 1, 1, 0, 0, 1, 0, 1] 5 := qC rfl
theorem q34_1010011111110 : QK 34 g34 [0, 1, 1, 1, 1, 1, 1, 1, 0, 0, 1, 0, 1] := qK rfl
theorem q34_1010011111111 : QS 34 g34 [1, 1, 1, 1, 1, 1, 1, 1, 0, 0, 1, 0, 1] := qS rfl
theorem q34_10100111111110 : QR 34 g34 [0, 1, 1, 1, 1, 1, 1, 1, 1, 0, 0, 1, 0, 1] 2 := qR rfl rfl
theorem q34_10100111111111 : QC 34 g34 [1, 1, 1, 1, 1, 1, 1, 1, 1, 0, 0, 1, 0, 1] 5 := qC rfl
theorem q34_101001111111110 : QK 34 g34 [0, 1, 1, 1, 1, 1, 1, 1, 1, 1, 0, 0, 1, 0, 1] := qK rfl
theorem q34_101001111111111 : QR 34 g34 [1, 1, 1, 1, 1, 1, 1, 1, 1, 1, 0, 0, 1, 0, 1] 2 := qR rfl rfl
theorem q34_10101 : QC 34 g34 [1, 0, 1, 0, 1] 5 := qC rfl
theorem q34_101010 : QS 34 g34 [0, 1, 0, 1, 0, 1] := qS rfl
theorem q34_1010100 : QR 34 g34 [0, 0, 1, 0, 1, 0, 1] 2 := qR rfl rfl
theorem q34_1010101 : QT 34 g34 [1, 0, 1, 0, 1, 0, 1] := qT rfl
theorem q34_101011 : QS 34 g34 [1, 1, 0, 1, 0, 1] := qS rfl
theorem q34_1010110 : QS 34 g34 [0, 1, 1, 0, 1, 0, 1] := qS rfl
theorem q34_10101100 : QR 34 g34 [0, 0, 1, 1, 0, 1, 0, 1] 2 := qR rfl rfl
theorem q34_10101101 : QC 34 g34 [1, 0, 1, 1, 0, 1, 0, 1] 12 := qC rfl
theorem q34_101011010 : QK 34 g34 [0, 1, 0, 1, 1, 0, 1, 0, 1] := qK rfl
theorem q34_101011011 : QS 34 g34 [1, 1, 0, 1, 1, 0, 1, 0, 1] := qS rfl
theorem q34_1010110110 : QR 34 g34 [0, 1, 1, 0, 1, 1, 0, 1, 0, 1] 2 := qR rfl rfl
theorem q34_1010110111 : QC 34 g34 [1, 1, 1, 0, 1, 1, 0, 1, 0, 1] 12 := qC rfl
theorem q34_10101101110 : QK 34 g34 [0, 1, 1, 1, 0, 1, 1, 0, 1, 0, 1] := qK rfl
theorem q34_10101101111 : QS 34 g34 [1, 1, 1, 1, 0, 1, 1, 0, 1, 0, 1] := qS rfl
theorem q34_101011011110 : QR 34 g34 [0, 1, 1, 1, 1, 0, 1, 1, 0, 1, 0, 1] 2 := qR rfl rfl
theorem q34_101011011111 : QC 34 g34 [1, 1, 1, 1, 1, 0, 1, 1, 0, 1, 0, 1] 12 := qC rfl
theorem q34_1010110111110 : QK 34 g34 [0, 1, 1, 1, 1, 1, 0, 1, 1, 0, 1, 0, 1] := qK rfl
theorem q34_1010110111111 : QS 34 g34 [1, 1, 1, 1, 1, 1, 0, 1, 1, 0, 1, 0, 1] := qS rfl
theorem q34_10101101111110 : QR 34 g34 [0, 1, 1, 1, 1, 1, 1, 0, 1, 1, 0, 1, 0, 1] 2 := qR rfl rfl
theorem q34_10101101111111 : QC 34 g34 [1, 1, 1, 1, 1, 1, 1, 0, 1, 1, 0, 1, 0, 1] 12 := qC rfl
theorem q34_101011011111110 : QK 34 g34 [0, 1, 1, 1, 1, 1, 1, 1, 0, 1, 1, 0, 1, 0, 1] := qK rfl
theorem q34_101011011111111 : QS 34 g34 [1, 1, 1, 1, 1, 1, 1, 1, 0, 1, 1, 0, 1, 0, 1] := qS rfl
theorem q34_1010110111111110 : QR 34 g34 [0, 1, 1, 1, 1, 1, 1, 1, 1, 0, 1, 1, 0, 1, 0, 1] 2 := qR rfl rfl
theorem q34_1010110111111111 : QC 34 g34 [1, 1, 1, 1, 1, 1, 1, 1, 1, 0, 1, 1, 0, 1, 0, 1] 12 := qC rfl
theorem q34_10101101111111110 : QK 34 g34 [0, 1, 1, 1, 1, 1, 1, 1, 1, 1, 0, 1, 1, 0, 1, 0, 1] := qK rfl
theorem q34_10101101111111111 : QS 34 g34 [1, 1, 1, 1, 1, 1, 1, 1, 1, 1, 0, 1, 1, 0, 1, 0, 1] := qS rfl
theorem q34_101011011111111110 : QR 34 g34 [0, 1, 1, 1, 1, 1, 1, 1, 1, 1, 1, 0, 1, 1, 0, 1, 0, 1] 2 := qR rfl rfl
theorem q34_101011011111111111 : QC 34 g34 [1, 1, 1, 1, 1, 1, 1, 1, 1, 1, 1, 0, 1, 1, 0, 1, 0, 1] 12 := qC rfl
theorem q34_1010110111111111110 : QK 34 g34 [0, 1, 1, 1, 1, 1, 1, 1, 1, 1, 1, 1, 0, 1, 1, 0, 1, 0, 1] := qK rfl
theorem q34_1010110111111111111 : QS 34 g34 [1, 1, 1, 1, 1, 1, 1, 1, 1, 1, 1, 1, 0, 1, 1, 0, 1, 0, 1] := qS rfl
theorem q34_10101101111111111110 : QR 34 g34 [0, 1, 1, 1, 1, 1, 1, 1, 1, 1, 1, 1, 1, 0, 1, 1, 0, 1, 0, 1] 2 := qR rfl rfl
theorem q34_10101101111111111111 : QC 34 g34 [1, 1, 1, 1, 1, 1, 1, 1, 1, 1, 1, 1, 1, 0, 1, 1, 0, 1, 0, 1] 12 := qC rfl
theorem q34_101011011111111111110 : QK 34 g34 [0, 1, 1, 1, 1, 1, 1, 1, 1, 1, 1, 1, 1, 1, 0, 1, 1, 0, 1, 0, 1] := qK rfl
theorem q34_101011011111111111111 : QS 34 g34 [1, 1, 1, 1, 1, 1, 1, 1, 1, 1, 1, 1, 1, 1, 0, 1, 1, 0, 1, 0, 1] := qS rfl
theorem q34_1010110111111111111110 : QR 34 g34 [0, 1, 1, 1, 1, 1, 1, 1, 1, 1, 1, 1, 1, 1, 1, 0, 1, 1, 0, 1, 0, 1] 2 := qR rfl rfl
theorem q34_1010110111111111111111 : QC 34 g34 [1, 1, 1, 1, 1, 1, 1, 1, 1, 1, 1, 1, 1, 1, 1, 0, 1, 1, 0, 1, 0, 1] 12 := qC rfl
theorem q34_10101101111111111111110 : QK 34 g34 [0, 1, 1, 1, 1, 1, 1, 1, 1, 1, 1, 1, 1, 1, 1, 1, 0, 1, 1, 0, 1, 0, 1] := qK rfl
theorem q34_10101101111111111111111 : QR 34 g34 [1, 1, 1, 1, 1, 1, 1, 1, 1, 1, 1, 1, 1, 1, 1, 1, 0, 1, 1, 0, 1, 0, 1] 2 := qR rfl rfl
theorem q34_1010111 : QC 34 g34 [1, 1, 1, 0, 1, 0, 1] 12 := qC rfl
theorem q34_10101110 : QS 34 g34 [0, 1, 1, 1, 0, 1, 0, 1] := qS rfl
theorem q34_101011100 : QR 34 g34 [0, 0, 1, 1, 1, 0, 1, 0, 1] 2 := qR rfl rfl
theorem q34_101011101 : QT 34 g34 [1, 0, 1, 1, 1, 0, 1, 0, 1] := qT rfl
theorem q34_10101111 : QS 34 g34 [1, 1, 1, 1, 0, 1, 0, 1] := qS rfl
theorem q34_101011110 : QR 34 g34 [0, 1, 1, 1, 1, 0, 1, 0, 1] 2 := qR rfl rfl
theorem q34_101011111 : QC 34 g34 [1, 1, 1, 1, 1, 0, 1, 0, 1] 22 := qC rfl
theorem q34_1010111110 : QS 34 g34 [0, 1, 1, 1, 1, 1, 0, 1, 0, 1] := qS rfl
theorem q34_10101111100 : QR 34 g34 [0, 0, 1, 1, 1, 1, 1, 0, 1, 0, 1] 2 := qR rfl rfl
theorem q34_10101111101 : QT 34 g34 [1, 0, 1, 1, 1, 1, 1, 0, 1, 0, 1] := qT rfl
theorem q34_1010111111 : QS 34 g34 [1, 1, 1, 1, 1, 1, 0, 1, 0, 1] := qS rfl
theorem q34_10101111110 : QR 34 g34 [0, 1, 1, 1, 1, 1, 1, 0, 1, 0, 1] 2 := qR rfl rfl
theorem q34_10101111111 : QC 34 g34 [1, 1, 1, 1, 1, 1, 1, 0, 1, 0, 1] 24 := qC rfl
theorem q34_101011111110 : QS 34 g34 [0, 1, 1, 1, 1, 1, 1, 1, 0, 1, 0, 1] := qS rfl
theorem q34_1010111111100 : QR 34 g34 [0, 0, 1, 1, 1, 1, 1, 1, 1, 0, 1, 0, 1] 2 := qR rfl rfl
theorem q34_1010111111101 : QT 34 g34 [1, 0, 1, 1, 1, 1, 1, 1, 1, 0, 1, 0, 1] := qT rfl
theorem q34_101011111111 : QS 34 g34 [1, 1, 1, 1, 1, 1, 1, 1, 0, 1, 0, 1] := qS rfl
theorem q34_1010111111110 : QR 34 g34 [0, 1, 1, 1, 1, 1, 1, 1, 1, 0, 1, 0, 1] 2 := qR rfl rfl
theorem q34_1010111111111 : QC 34 g34 [1, 1, 1, 1, 1, 1, 1, 1, 1, 0, 1, 0, 1] 26 := qC rfl
theorem q34_10101111111110 : QS 34 g34 [0, 1, 1, 1, 1, 1, 1, 1, 1, 1, 0, 1, 0, 1] := qS rfl
theorem q34_101011111111100 : QR 34 g34 [0, 0, 1, 1, 1, 1, 1, 1, 1, 1, 1, 0, 1, 0, 1] 2 := qR rfl rfl
theorem q34_101011111111101 : QT 34 g34 [1, 0, 1, 1, 1, 1, 1, 1, 1, 1, 1, 0, 1, 0, 1] := qT rfl
theorem q34_10101111111111 : QK 34 g34 [1, 1, 1, 1, 1, 1, 1, 1, 1, 1, 0, 1, 0, 1] := qK rfl
theorem q34_11 : QS 34 g34 [1, 1] := qS rfl
theorem q34_110 : QR 34 g34 [0, 1, 1] 2 := qR rfl rfl
theorem q34_111 : QT 34 g34 [1, 1, 1] := qT rfl
theorem q35_ : QS 35 g35 [] := qS rfl
theorem q35_0 : QR 35 g35 [0] 2 := qR rfl rfl
theorem q35_1 : QS 35 g35 [1] := qS rfl
theorem q35_10 : QS 35 g35 [0, 1] := qS rfl
theorem q35_100 : QR 35 g35 [0, 0, 1] 2 := qR rfl rfl
theorem q35_101 : QB 35 g35 [1, 0, 1] 0 := qB rfl
theorem q35_1010 : QS 35 g35 [0, 1, 0, 1] := qS rfl
theorem q35_10100 : QR 35 g35 [0, 0, 1, 0, 1] 2 := qR rfl rfl
theorem q35_10101 : QC 35 g35 [1, 0, 1, 0, 1] 7 := qC rfl
theorem q35_101010 : QS 35 g35 [0, 1, 0, 1, 0, 1] := qS rfl
theorem q35_1010100 : QR 35 g35 [0, 0, 1, 0, 1, 0, 1] 4 := qR rfl rfl
theorem q35_1010101 : QT 35 g35 [1, 0, 1, 0, 1, 0, 1] := qT rfl
theorem q35_101011 : QS 35 g35 [1, 1, 0, 1, 0, 1] := qS rfl
theorem q35_1010110 : QR 35 g35 [0, 1, 1, 0, 1, 0, 1] 2 := qR rfl rfl
theorem q35_1010111 : QC 35 g35 [1, 1, 1, 0, 1, 0, 1] 12 := qC rfl
theorem q35_10101110 : QS 35 g35 [0, 1, 1, 1, 0, 1, 0, 1] := qS rfl
theorem q35_101011100 : QR 35 g35 [0, 0, 1, 1, 1, 0, 1, 0, 1] 4 := qR rfl rfl
theorem q35_101011101 : QT 35 g35 [1, 0, 1, 1, 1, 0, 1, 0, 1] := qT rfl
theorem q35_10101111 : QS 35 g35 [1, 1, 1, 1, 0, 1, 0, 1] := qS rfl
theorem q35_101011110 : QS 35 g35 [0, 1, 1, 1, 1, 0, 1, 0, 1] := qS rfl
theorem q35_1010111100 : QR 35 g35 [0, 0, 1, 1, 1, 1, 0, 1, 0, 1] 2 := qR rfl rfl
theorem q35_1010111101 : QC 35 g35 [1, 0, 1, 1, 1, 1, 0, 1, 0, 1] 17 := qC rfl
theorem q35_10101111010 : QK 35 g35 [0, 1, 0, 1, 1, 1, 1, 0, 1, 0, 1] := qK rfl
theorem q35_10101111011 : QS 35 g35 [1, 1, 0, 1, 1, 1, 1, 0, 1, 0, 1] := qS rfl
theorem q35_101011110110 : QR 35 g35 [0, 1, 1, 0, 1, 1, 1, 1, 0, 1, 0, 1] 2 := qR rfl rfl
theorem q35_101011110111 : QC 35 g35 [1, 1, 1, 0, 1, 1, 1, 1, 0, 1, 0, 1] 17 := qC rfl
theorem q35_1010111101110 : QK 35 g35 [0, 1, 1, 1, 0, 1, 1, 1, 1, 0, 1, 0, 1] := qK rfl
theorem q35_1010111101111 : QS 35 g35 [1, 1, 1, 1, 0, 1, 1, 1, 1, 0, 1, 0, 1] := qS rfl
theorem q35_10101111011110 : QR 35 g35 [0, 1, 1, 1, 1, 0, 1, 1, 1, 1, 0, 1, 0, 1] 2 := qR rfl rfl
theorem q35_10101111011111 : QC 35 g35 [1, 1, 1, 1, 1, 0, 1, 1, 1, 1, 0, 1, 0, 1] 17 := qC rfl
theorem q35_101011110111110 : QK 35 g35 [0, 1, 1, 1, 1, 1, 0, 1, 1, 1, 1, 0, 1, 0, 1] := qK rfl
theorem q35_101011110111111 : QS 35 g35 [1, 1, 1, 1, 1, 1, 0, 1, 1, 1, 1, 0, 1, 0, 1] := qS rfl
theorem q35_1010111101111110 : QR 35 g35 [0, 1, 1, 1, 1, 1, 1, 0, 1, 1, 1, 1, 0, 1, 0, 1] 2 := qR rfl rfl
theorem q35_1010111101111111 : QC 35 g35 [1, 1, 1, 1, 1, 1, 1, 0, 1, 1, 1, 1, 0, 1, 0, 1] 17 := qC rfl
theorem q35_10101111011111110 : QK 35 g35 [0, 1, 1, 1, 1, 1, 1, 1, 0, 1, 1, 1, 1, 0, 1, 0, 1] := qK rfl
theorem q35_10101111011111111 : QS 35 g35 [1, 1, 1, 1, 1, 1, 1, 1, 0, 1, 1, 1, 1, 0, 1, 0, 1] := qS rfl
theorem q35_101011110111111110 : QR 35 g35 [0, 1, 1, 1, 1, 1, 1, 1, 1, 0, 1, 1, 1, 1, 0, 1, 0, 1] 2 := qR rfl rfl
theorem q35_101011110111111111 : QC 35 g35 [1, 1, 1, 1, 1, 1, 1, 1, 1, 0, 1, 1, 1, 1, 0, 1, 0, 1] 17 := qC rfl
theorem q35_1010111101111111110 : QK 35 g35 [0, 1, 1, 1, 1, 1, 1, 1, 1, 1, 0, 1, 1, 1, 1, 0, 1, 0, 1] := qK rfl
theorem q35_1010111101111111111 : QS 35 g35 [1, 1, 1, 1, 1, 1, 1, 1, 1, 1, 0, 1, 1, 1, 1, 0, 1, 0, 1] := qS rfl
theorem q35_10101111011111111110 : QR 35 g35 [0, 1, 1, 1, 1, 1, 1, 1, 1, 1, 1, 0, 1, 1, 1, 1, 0, 1, 0, 1] 2 := qR rfl rfl
theorem q35_10101111011111111111 : QC 35 g35 [1, 1, 1, 1, 1, 1, 1, 1, 1, 1, 1, 0, 1, 1, 1, 1, 0, 1, 0, 1] 17 := qC rfl
theorem q35_101011110111111111110 : QK 35 g35 [0, 1, 1, 1, 1, 1, 1, 1, 1, 1, 1, 1, 0, 1, 1, 1, 1, 0, 1, 0, 1] := qK rfl
theorem q35_101011110111111111111 : QR 35 g35 [1, 1, 1, 1, 1, 1, 1, 1, 1, 1, 1, 1, 0, 1, 1, 1, 1, 0, 1, 0, 1] 2 := qR rfl rfl
theorem q35_101011111 : QC 35 g35 [1, 1, 1, 1, 1, 0, 1, 0, 1] 17 := qC rfl
theorem q35_1010111110 : QS 35 g35 [0, 1, 1, 1, 1, 1, 0, 1, 0, 1] := qS rfl
theorem q35_10101111100 : QR 35 g35 [0, 0, 1, 1, 1, 1, 1, 0, 1, 0, 1] 4 := qR rfl rfl
theorem q35_10101111101 : QT 35 g35 [1, 0, 1, 1, 1, 1, 1, 0, 1, 0, 1] := qT rfl
theorem q35_1010111111 : QS 35 g35 [1, 1, 1, 1, 1, 1, 0, 1, 0, 1] := qS rfl
theorem q35_10101111110 : QR 35 g35 [0, 1, 1, 1, 1, 1, 1, 0, 1, 0, 1] 2 := qR rfl rfl
theorem q35_10101111111 : QC 35 g35 [1, 1, 1, 1, 1, 1, 1, 0, 1, 0, 1] 28 := qC rfl
theorem q35_101011111110 : QS 35 g35 [0, 1, 1, 1, 1, 1, 1, 1, 0, 1, 0, 1] := qS rfl
theorem q35_1010111111100 : QR 35 g35 [0, 0, 1, 1, 1, 1, 1, 1, 1, 0, 1, 0, 1] 9 := qR rfl rfl
theorem q35_1010111111101 : QS 35 g35 [1, 0, 1, 1, 1, 1, 1, 1, 1, 0, 1, 0, 1] := qS rfl
theorem q35_10101111111010 : QR 35 g35 [0, 1, 0, 1, 1, 1, 1, 1, 1, 1, 0, 1, 0, 1] 7 := qR rfl rfl
theorem q35_10101111111011 : QT 35 g35 [1, 1, 0, 1, 1, 1, 1, 1, 1, 1, 0, 1, 0, 1] := qT rfl
theorem q35_101011111111 : QK 35 g35 [1, 1, 1, 1, 1, 1, 1, 1, 0, 1, 0, 1] := qK rfl
theorem q35_11 : QS 35 g35 [1, 1] := qS rfl
theorem q35_110 : QR 35 g35 [0, 1, 1] 4 := qR rfl rfl
theorem q35_111 : QT 35 g35 [1, 1, 1] := qT rfl
theorem q36_ : QS 36 g36 [] := qS rfl
theorem q36_0 : QR 36 g36 [0] 1 := qR rfl rfl
theorem q36_1 : QS 36 g36 [1] := qS rfl
theorem q36_10 : QR 36 g36 [0, 1] 4 := qR rfl rfl
theorem q36_11 : QS 36 g36 [1, 1] := qS rfl
theorem q36_110 : QS 36 g36 [0, 1, 1] := qS rfl
theorem q36_1100 : QR 36 g36 [0, 0, 1, 1] 1 := qR rfl rfl
theorem q36_1101 : QB 36 g36 [1, 0, 1, 1] 0 := qB rfl
theorem q36_11010 : QL 36 g36 [0, 1, 0, 1, 1] 3 := qL rfl rfl
theorem q36_110100 : QS 36 g36 [0, 0, 1, 0, 1, 1] := qS rfl
theorem q36_1101000 : QS 36 g36 [0, 0, 0, 1, 0, 1, 1] := qS rfl
theorem q36_11010000 : QR 36 g36 [0, 0, 0, 0, 1, 0, 1, 1] 4 := qR rfl rfl
theorem q36_11010001 : QC 36 g36 [1, 0, 0, 0, 1, 0, 1, 1] 11 := qC rfl
theorem q36_110100010 : QK 36 g36 [0, 1, 0, 0, 0, 1, 0, 1, 1] := qK rfl
theorem q36_110100011 : QX 36 g36 [1, 1, 0, 0, 0, 1, 0, 1, 1] 0 := qX rfl
theorem q36_1101001 : QS 36 g36 [1, 0, 0, 1, 0, 1, 1] := qS rfl
theorem q36_11010010 : QB 36 g36 [0, 1, 0, 0, 1, 0, 1, 1] 1 := qB rfl
theorem q36_110100100 : QR 36 g36 [0, 0, 1, 0, 0, 1, 0, 1, 1] 8 := qR rfl rfl
theorem q36_11010011 : QR 36 g36 [1, 1, 0, 0, 1, 0, 1, 1] 3 := qR rfl rfl
theorem q36_111 : QS 36 g36 [1, 1, 1] := qS rfl
theorem q36_1110 : QR 36 g36 [0, 1, 1, 1] 2 := qR rfl rfl
theorem q36_1111 : QT 36 g36 [1, 1, 1, 1] := qT rfl
theorem q37_ : QS 37 g37 [] := qS rfl
theorem q37_0 : QR 37 g37 [0] 1 := qR rfl rfl
theorem q37_1 : QS 37 g37 [1] := qS rfl
theorem q37_10 : QS 37 g37 [0, 1] := qS rfl
theorem q37_100 : QR 37 g37 [0, 0, 1] 3 := qR rfl rfl
theorem q37_101 : QB 37 g37 [1, 0, 1] 0 := qB rfl
theorem q37_1010 : QL 37 g37 [0, 1, 0, 1] 2 := qL rfl rfl
theorem q37_10100 : QS 37 g37 [0, 0, 1, 0, 1] := qS rfl
theorem q37_101000 : QR 37 g37 [0, 0, 0, 1, 0, 1] 1 := qR rfl rfl
theorem q37_101001 : QS 37 g37 [1, 0, 0, 1, 0, 1] := qS rfl
theorem q37_1010010 : QC 37 g37 [0, 1, 0, 0, 1, 0, 1] 11 := qC rfl
theorem q37_10100100 : QK 37 g37 [0, 0, 1, 0, 0, 1, 0, 1] := qK rfl
theorem q37_10100101 : QX 37 g37 [1, 0, 1, 0, 0, 1, 0, 1] 0 := qX rfl
theorem q37_1010011 : QS 37 g37 [1, 1, 0, 0, 1, 0, 1] := qS rfl
theorem q37_10100110 : QB 37 g37 [0, 1, 1, 0, 0, 1, 0, 1] 1 := qB rfl
theorem q37_101001100 : QS 37 g37 [0, 0, 1, 1, 0, 0, 1, 0, 1] := qS rfl
theorem q37_1010011000 : QR 37 g37 [0, 0, 0, 1, 1, 0, 0, 1, 0, 1] 2 := qR rfl rfl
theorem q37_1010011001 : QS 37 g37 [1, 0, 0, 1, 1, 0, 0, 1, 0, 1] := qS rfl
theorem q37_10100110010 : QR 37 g37 [0, 1, 0, 0, 1, 1, 0, 0, 1, 0, 1] 5 := qR rfl rfl
theorem q37_10100110011 : QC 37 g37 [1, 1, 0, 0, 1, 1, 0, 0, 1, 0, 1] 17 := qC rfl
theorem q37_101001100110 : QS 37 g37 [0, 1, 1, 0, 0, 1, 1, 0, 0, 1, 0, 1] := qS rfl
theorem q37_1010011001100 : QR 37 g37 [0, 0, 1, 1, 0, 0, 1, 1, 0, 0, 1, 0, 1] 1 := qR rfl rfl
theorem q37_1010011001101 : QT 37 g37 [1, 0, 1, 1, 0, 0, 1, 1, 0, 0, 1, 0, 1] := qT rfl
theorem q37_101001100111 : QK 37 g37 [1, 1, 1, 0, 0, 1, 1, 0, 0, 1, 0, 1] := qK rfl
theorem q37_10100111 : QR 37 g37 [1, 1, 1, 0, 0, 1, 0, 1] 2 := qR rfl rfl
theorem q37_11 : QS 37 g37 [1, 1] := qS rfl
theorem q37_110 : QR 37 g37 [0, 1, 1] 6 := qR rfl rfl
theorem q37_111 : QT 37 g37 [1, 1, 1] := qT rfl
theorem q38_ : QS 38 g38 [] := qS rfl
theorem q38_0 : QR 38 g38 [0] 1 := qR rfl rfl
theorem q38_1 : QS 38 g38 [1] := qS rfl
theorem q38_10 : QR 38 g38 [0, 1] 9 := qR rfl rfl
theorem q38_11 : QT 38 g38 [1, 1] := qT rfl
theorem q39_ : QS 39 g39 [] := qS rfl
theorem q39_0 : QR 39 g39 [0] 1 := qR rfl rfl
theorem q39_1 : QS 39 g39 [1] := qS rfl
theorem q39_10 : QR 39 g39 [0, 1] 8 := qR rfl rfl
theorem q39_11 : QT 39 g39 [1, 1] := qT rfl
theorem q40_ : QS 40 g40 [] := qS rfl
theorem q40_0 : QR 40 g40 [0] 2 := qR rfl rfl
theorem q40_1 : QS 40 g40 [1] := qS rfl
theorem q40_10 : QS 40 g40 [0, 1] := qS rfl
theorem q40_100 : QR 40 g40 [0, 0, 1] 4 := qR rfl rfl
theorem q40_101 : QC 40 g40 [1, 0, 1] 8 := qC rfl
theorem q40_1010 : QS 40 g40 [0, 1, 0, 1] := qS rfl
theorem q40_10100 : QR 40 g40 [0, 0, 1, 0, 1] 3 := qR rfl rfl
theorem q40_10101 : QT 40 g40 [1, 0, 1, 0, 1] := qT rfl
theorem q40_1011 : QK 40 g40 [1, 1, 0, 1] := qK rfl
theorem q40_11 : QS 40 g40 [1, 1] := qS rfl
theorem q40_110 : QR 40 g40 [0, 1, 1] 4 := qR rfl rfl
theorem q40_111 : QS 40 g40 [1, 1, 1] := qS rfl
theorem q40_1110 : QR 40 g40 [0, 1, 1, 1] 2 := qR rfl rfl
theorem q40_1111 : QS 40 g40 [1, 1, 1, 1] := qS rfl
theorem q40_11110 : QS 40 g40 [0, 1, 1, 1, 1] := qS rfl
theorem q40_111100 : QR 40 g40 [0, 0, 1, 1, 1, 1] 19 := qR rfl rfl
theorem q40_111101 : QC 40 g40 [1, 0, 1, 1, 1, 1] 33 := qC rfl
theorem q40_1111010 : QS 40 g40 [0, 1, 0, 1, 1, 1, 1] := qS rfl
theorem q40_11110100 : QR 40 g40 [0, 0, 1, 0, 1, 1, 1, 1] 3 := qR rfl rfl
theorem q40_11110101 : QT 40 g40 [1, 0, 1, 0, 1, 1, 1, 1] := qT rfl
theorem q40_1111011 : QK 40 g40 [1, 1, 0, 1, 1, 1, 1] := qK rfl
theorem q40_11111 : QS 40 g40 [1, 1, 1, 1, 1] := qS rfl
theorem q40_111110 : QR 40 g40 [0, 1, 1, 1, 1, 1] 6 := qR rfl rfl
theorem q40_111111 : QT 40 g40 [1, 1, 1, 1, 1, 1] := qT rfl
theorem q42_ : QS 42 g42 [] := qS rfl
theorem q42_0 : QR 42 g42 [0] 2 := qR rfl rfl
theorem q42_1 : QS 42 g42 [1] := qS rfl
theorem q42_10 : QS 42 g42 [0, 1] := qS rfl
theorem q42_100 : QR 42 g42 [0, 0, 1] 1 := qR rfl rfl
theorem q42_101 : QB 42 g42 [1, 0, 1] 0 := qB rfl
theorem q42_1010 : QS 42 g42 [0, 1, 0, 1] := qS rfl
theorem q42_10100 : QS 42 g42 [0, 0, 1, 0, 1] := qS rfl
theorem q42_101000 : QR 42 g42 [0, 0, 0, 1, 0, 1] 2 := qR rfl rfl
theorem q42_101001 : QC 42 g42 [1, 0, 0, 1, 0, 1] 5 := qC rfl
theorem q42_1010010 : QK 42 g42 [0, 1, 0, 0, 1, 0, 1] := qK rfl
theorem q42_1010011 : QS 42 g42 [1, 1, 0, 0, 1, 0, 1] := qS rfl
theorem q42_10100110 : QR 42 g42 [0, 1, 1, 0, 0, 1, 0, 1] 2 := qR rfl rfl
theorem q42_10100111 : QC 42 g42 [1, 1, 1, 0, 0, 1, 0, 1] 5 := qC rfl
theorem q42_101001110 : QK 42 g42 [0, 1, 1, 1, 0, 0, 1, 0, 1] := qK rfl
theorem q42_101001111 : QS 42 g42 [1, 1, 1, 1, 0, 0, 1, 0, 1] := qS rfl
theorem q42_1010011110 : QR 42 g42 [0, 1, 1, 1, 1, 0, 0, 1, 0, 1] 2 := qR rfl rfl
theorem q42_1010011111 : QC 42 g42 [1, 1, 1, 1, 1, 0, 0, 1, 0, 1] 5 := qC rfl
theorem q42_10100111110 : QK 42 g42 [0, 1, 1, 1, 1, 1, 0, 0, 1, 0, 1] := qK rfl
theorem q42_10100111111 : QS 42 g42 [1, 1, 1, 1, 1, 1, 0, 0, 1, 0, 1] := qS rfl
theorem q42_101001111110 : QR 42 g42 [0, 1, 1, 1, 1, 1, 1, 0, 0, 1, 0, 1] 2 := qR rfl rfl
theorem q42_101001111111 : QC 42 g42 [1, 1, 1, 1, 1, 1, 1, 0, 0, 1, 0, 1] 5 := qC rfl
theorem q42_1010011111110 : QK 42 g42 [0, 1, 1, 1, 1, 1, 1, 1, 0, 0, 1, 0, 1] := qK rfl
theorem q42_1010011111111 : QS 42 g42 [1, 1, 1, 1, 1, 1, 1, 1, 0, 0, 1, 0, 1] := qS rfl
theorem q42_10100111111110 : QR 42 g42 [0, 1, 1, 1, 1, 1, 1, 1, 1, 0, 0, 1, 0, 1] 2 := qR rfl rfl
theorem q42_10100111111111 : QC 42 g42 [1, 1, 1, 1, 1, 1, 1, 1, 1, 0, 0, 1, 0, 1] 5 := qC rfl
theorem q42_101001111111110 : QK 42 g42 [0, 1, 1, 1, 1, 1, 1, 1, 1, 1, 0, 0, 1, 0, 1] := qK rfl
theorem q42_101001111111111 : QR 42 g42 [1, 1, 1, 1, 1, 1, 1, 1, 1, 1, 0, 0, 1, 0, 1] 2 := qR rfl rfl
theorem q42_10101 : QC 42 g42 [1, 0, 1, 0, 1] 5 := qC rfl
theorem q42_101010 : QS 42 g42 [0, 1, 0, 1, 0, 1] := qS rfl
theorem q42_1010100 : QR 42 g42 [0, 0, 1, 0, 1, 0, 1] 2 := qR rfl rfl
theorem q42_1010101 : QT 42 g42 [1, 0, 1, 0, 1, 0, 1] := qT rfl
theorem q42_101011 : QS 42 g42 [1, 1, 0, 1, 0, 1] := qS rfl
theorem q42_1010110 : QS 42 g42 [0, 1, 1, 0, 1, 0, 1] := qS rfl
theorem q42_10101100 : QR 42 g42 [0, 0, 1, 1, 0, 1, 0, 1] 2 := qR rfl rfl
theorem q42_10101101 : QC 42 g42 [1, 0, 1, 1, 0, 1, 0, 1] 12 := qC rfl
theorem q42_101011010 : QK 42 g42 [0, 1, 0, 1, 1, 0, 1, 0, 1] := qK rfl
theorem q42_101011011 : QS 42 g42 [1, 1, 0, 1, 1, 0, 1, 0, 1] := qS rfl
theorem q42_1010110110 : QR 42 g42 [0, 1, 1, 0, 1, 1, 0, 1, 0, 1] 2 := qR rfl rfl
theorem q42_1010110111 : QC 42 g42 [1, 1, 1, 0, 1, 1, 0, 1, 0, 1] 12 := qC rfl
theorem q42_10101101110 : QK 42 g42 [0, 1, 1, 1, 0, 1, 1, 0, 1, 0, 1] := qK rfl
theorem q42_10101101111 : QS 42 g42 [1, 1, 1, 1, 0, 1, 1, 0, 1, 0, 1] := qS rfl
theorem q42_101011011110 : QR 42 g42 [0, 1, 1, 1, 1, 0, 1, 1, 0, 1, 0, 1] 2 := qR rfl rfl
theorem q42_101011011111 : QC 42 g42 [1, 1, 1, 1, 1, 0, 1, 1, 0, 1, 0, 1] 12 := qC rfl
theorem q42_1010110111110 : QK 42 g42 [0, 1, 1, 1, 1, 1, 0, 1, 1, 0, 1, 0, 1] := qK rfl
theorem q42_1010110111111 : QS 42 g42 [1, 1, 1, 1, 1, 1, 0, 1, 1, 0, 1, 0, 1] := qS rfl
theorem q42_10101101111110 : QR 42 g42 [0, 1, 1, 1, 1, 1, 1, 0, 1, 1, 0, 1, 0, 1] 2 := qR rfl rfl
theorem q42_10101101111111 : QC 42 g42 [1, 1, 1, 1, 1, 1, 1, 0, 1, 1, 0, 1, 0, 1] 12 := qC rfl
theorem q42_101011011111110 : QK 42 g42 [0, 1, 1, 1, 1, 1, 1, 1, 0, 1, 1, 0, 1, 0, 1] := qK rfl
theorem q42_101011011111111 : QS 42 g42 [1, 1, 1, 1, 1, 1, 1, 1, 0, 1, 1, 0, 1, 0, 1] := qS rfl
theorem q42_1010110111111110 : QR 42 g42 [0, 1, 1, 1, 1, 1, 1, 1, 1, 0, 1, 1, 0, 1, 0, 1] 2 := qR rfl rfl
theorem q42_1010110111111111 : QC 42 g42 [1, 1, 1, 1, 1, 1, 1, 1, 1, 0, 1, 1, 0, 1, 0, 1] 12 := qC rfl
theorem q42_10101101111111110 : QK 42 g42 [0, 1, 1, 1, 1, 1, 1, 1, 1, 1, 0, 1, 1, 0, 1, 0, 1] := qK rfl
theorem q42_10101101111111111 : QS 42 g42 [1, 1, 1, 1, 1, 1, 1, 1, 1, 1, 0, 1, 1, 0, 1, 0, 1] := qS rfl
theorem q42_101011011111111110 : QR 42 g42 [0, 1, 1, 1, 1, 1, 1, 1, 1, 1, 1, 0, 1, 1, 0, 1, 0, 1] 2 := qR rfl rfl
theorem q42_101011011111111111 : QC 42 g42 [1, 1, 1, 1, 1, 1, 1, 1, 1, 1, 1, 0, 1, 1, 0, 1, 0, 1] 12 := qC rfl
theorem q42_1010110111111111110 : QK 42 g42 [0, 1, 1, 1, 1, 1, 1, 1, 1, 1, 1, 1, 0, 1, 1, 0, 1, 0, 1] := qK rfl
theorem q42_1010110111111111111 : QS 42 g42 [1, 1, 1, 1, 1, 1, 1, 1, 1, 1, 1, 1, 0, 1, 1, 0, 1, 0, 1] := qS rfl
theorem q42_10101101111111111110 : QR 42 g42 [0, 1, 1, 1, 1, 1, 1, 1, 1, 1, 1, 1, 1, 0, 1, 1, 0, 1, 0, 1] 2 := qR rfl rfl
theorem q42_10101101111111111111 : QC 42 g42 [1, 1, 1, 1, 1, 1, 1, 1, 1, 1, 1, 1, 1, 0, 1, 1, 0, 1, 0, 1] 12 := qC rfl
theorem q42_101011011111111111110 : QK 42 g42 [0, 1, 1, 1, 1, 1, 1, 1, 1, 1, 1, 1, 1, 1, 0, 1, 1, 0, 1, 0, 1] := qK rfl
theorem q42_101011011111111111111 : QS 42 g42 [1, 1, 1, 1, 1, 1, 1, 1, 1, 1, 1, 1, 1, 1, 0, 1, 1, 0, 1, 0, 1] := qS rfl
theorem q42_1010110111111111111110 : QR 42 g42 [0, 1, 1, 1, 1, 1, 1, 1, 1, 1, 1, 1, 1, 1, 1, 0, 1, 1, 0, 1, 0, 1] 2 := qR rfl rfl
theorem q42_1010110111111111111111 : QC 42 g42 [1, 1, 1, 1, 1, 1, 1, 1, 1, 1, 1, 1, 1, 1, 1, 0, 1, 1, 0, 1, 0, 1] 12 := qC rfl
theorem q42_10101101111111111111110 : QK 42 g42 [0, 1, 1, 1, 1, 1, 1, 1, 1, 1, 1, 1, 1, 1, 1, 1, 0, 1, 1, 0, 1, 0, 1] := qK rfl
theorem q42_10101101111111111111111 : QR 42 g42 [1, 1, 1, 1, 1, 1, 1, 1, 1, 1, 1, 1, 1, 1, 1, 1, 0, 1, 1, 0, 1, 0, 1] 2 := qR rfl rfl
theorem q42_1010111 : QC 42 g42 [1, 1, 1, 0, 1, 0, 1] 12 := qC rfl
theorem q42_10101110 : QS 42 g42 [0, 1, 1, 1, 0, 1, 0, 1] := qS rfl
theorem q42_101011100 : QR 42 g42 [0, 0, 1, 1, 1, 0, 1, 0, 1] 2 := qR rfl rfl
theorem q42_101011101 : QT 42 g42 [1, 0, 1, 1, 1, 0, 1, 0, 1] := qT rfl
theorem q42_10101111 : QS 42 g42 [1, 1, 1, 1, 0, 1, 0, 1] := qS rfl
theorem q42_101011110 : QR 42 g42 [0, 1, 1, 1, 1, 0, 1, 0, 1] 2 := qR rfl rfl
theorem q42_101011111 : QC 42 g42 [1, 1, 1, 1, 1, 0, 1, 0, 1] 22 := qC rfl
theorem q42_1010111110 : QS 42 g42 [0, 1, 1, 1, 1, 1, 0, 1, 0, 1] := qS rfl
theorem q42_10101111100 : QR 42 g42 [0, 0, 1, 1, 1, 1, 1, 0, 1, 0, 1] 2 := qR rfl rfl
theorem q42_10101111101 : QT 42 g42 [1, 0, 1, 1, 1, 1, 1, 0, 1, 0, 1] := qT rfl
theorem q42_1010111111 : QK 42 g42 [1, 1, 1, 1, 1, 1, 0, 1, 0, 1] := qK rfl
theorem q42_11 : QS 42 g42 [1, 1] := qS rfl
theorem q42_110 : QR 42 g42 [0, 1, 1] 2 := qR rfl rfl
theorem q42_111 : QT 42 g42 [1, 1, 1] := qT rfl
theorem q43_ : QS 43 g43 [] := qS rfl
theorem q43_0 : QR 43 g43 [0] 1 := qR rfl rfl
theorem q43_1 : QS 43 g43 [1] := qS rfl
theorem q43_10 : QR 43 g43 [0, 1] 3 := qR rfl rfl
theorem q43_11 : QT 43 g43 [1, 1] := qT rfl
theorem q44_ : QS 44 g44 [] := qS rfl
theorem q44_0 : QR 44 g44 [0] 1 := qR rfl rfl
theorem q44_1 : QS 44 g44 [1] := qS rfl
theorem q44_10 : QS 44 g44 [0, 1] := qS rfl
theorem q44_100 : QR 44 g44 [0, 0, 1] 5 := qR rfl rfl
theorem q44_101 : QC 44 g44 [1, 0, 1] 10 := qC rfl
theorem q44_1010 : QS 44 g44 [0, 1, 0, 1] := qS rfl
theorem q44_10100 : QR 44 g44 [0, 0, 1, 0, 1] 1 := qR rfl rfl
theorem q44_10101 : QT 44 g44 [1, 0, 1, 0, 1] := qT rfl
theorem q44_1011 : QK 44 g44 [1, 1, 0, 1] := qK rfl
theorem q44_11 : QS 44 g44 [1, 1] := qS rfl
theorem q44_110 : QS 44 g44 [0, 1, 1] := qS rfl
theorem q44_1100 : QR 44 g44 [0, 0, 1, 1] 1 := qR rfl rfl
theorem q44_1101 : QB 44 g44 [1, 0, 1, 1] 0 := qB rfl
theorem q44_11010 : QL 44 g44 [0, 1, 0, 1, 1] 4 := qL rfl rfl
theorem q44_110100 : QS 44 g44 [0, 0, 1, 0, 1, 1] := qS rfl
theorem q44_1101000 : QS 44 g44 [0, 0, 0, 1, 0, 1, 1] := qS rfl
theorem q44_11010000 : QR 44 g44 [0, 0, 0, 0, 1, 0, 1, 1] 4 := qR rfl rfl
theorem q44_11010001 : QC 44 g44 [1, 0, 0, 0, 1, 0, 1, 1] 14 := qC rfl
theorem q44_110100010 : QK 44 g44 [0, 1, 0, 0, 0, 1, 0, 1, 1] := qK rfl
theorem q44_110100011 : QX 44 g44 [1, 1, 0, 0, 0, 1, 0, 1, 1] 0 := qX rfl
theorem q44_1101001 : QS 44 g44 [1, 0, 0, 1, 0, 1, 1] := qS rfl
theorem q44_11010010 : QB 44 g44 [0, 1, 0, 0, 1, 0, 1, 1] 1 := qB rfl
theorem q44_110100100 : QS 44 g44 [0, 0, 1, 0, 0, 1, 0, 1, 1] := qS rfl
theorem q44_1101001000 : QD 44 g44 [0, 0, 0, 1, 0, 0, 1, 0, 1, 1] 9 := qD rfl rfl
theorem q44_1101001001 : QC 44 g44 [1, 0, 0, 1, 0, 0, 1, 0, 1, 1] 25 := qC rfl
theorem q44_11010010010 : QS 44 g44 [0, 1, 0, 0, 1, 0, 0, 1, 0, 1, 1] := qS rfl
theorem q44_110100100100 : QR 44 g44 [0, 0, 1, 0, 0, 1, 0, 0, 1, 0, 1, 1] 1 := qR rfl rfl
theorem q44_110100100101 : QT 44 g44 [1, 0, 1, 0, 0, 1, 0, 0, 1, 0, 1, 1] := qT rfl
theorem q44_11010010011 : QK 44 g44 [1, 1, 0, 0, 1, 0, 0, 1, 0, 1, 1] := qK rfl
theorem q44_11010011 : QR 44 g44 [1, 1, 0, 0, 1, 0, 1, 1] 3 := qR rfl rfl
theorem q44_111 : QS 44 g44 [1, 1, 1] := qS rfl
theorem q44_1110 : QR 44 g44 [0, 1, 1, 1] 1 := qR rfl rfl
theorem q44_1111 : QT 44 g44 [1, 1, 1, 1] := qT rfl
theorem q45_ : QS 45 g45 [] := qS rfl
theorem q45_0 : QR 45 g45 [0] 1 := qR rfl rfl
theorem q45_1 : QS 45 g45 [1] := qS rfl
theorem q45_10 : QS 45 g45 [0, 1] := qS rfl
theorem q45_100 : QR 45 g45 [0, 0, 1] 1 := qR rfl rfl
theorem q45_101 : QB 45 g45 [1, 0, 1] 0 := qB rfl
theorem q45_1010 : QL 45 g45 [0, 1, 0, 1] 2 := qL rfl rfl
theorem q45_10100 : QS 45 g45 [0, 0, 1, 0, 1] := qS rfl
theorem q45_101000 : QS 45 g45 [0, 0, 0, 1, 0, 1] := qS rfl
theorem q45_1010000 : QR 45 g45 [0, 0, 0, 0, 1, 0, 1] 4 := qR rfl rfl
theorem q45_1010001 : QC 45 g45 [1, 0, 0, 0, 1, 0, 1] 7 := qC rfl
theorem q45_10100010 : QK 45 g45 [0, 1, 0, 0, 0, 1, 0, 1] := qK rfl
theorem q45_10100011 : QX 45 g45 [1, 1, 0, 0, 0, 1, 0, 1] 0 := qX rfl
theorem q45_101001 : QS 45 g45 [1, 0, 0, 1, 0, 1] := qS rfl
theorem q45_1010010 : QB 45 g45 [0, 1, 0, 0, 1, 0, 1] 1 := qB rfl
theorem q45_10100100 : QS 45 g45 [0, 0, 1, 0, 0, 1, 0, 1] := qS rfl
theorem q45_101001000 : QR 45 g45 [0, 0, 0, 1, 0, 0, 1, 0, 1] 10 := qR rfl rfl
theorem q45_101001001 : QC 45 g45 [1, 0, 0, 1, 0, 0, 1, 0, 1] 19 := qC rfl
theorem q45_1010010010 : QS 45 g45 [0, 1, 0, 0, 1, 0, 0, 1, 0, 1] := qS rfl
theorem q45_10100100100 : QR 45 g45 [0, 0, 1, 0, 0, 1, 0, 0, 1, 0, 1] 1 := qR rfl rfl
theorem q45_10100100101 : QT 45 g45 [1, 0, 1, 0, 0, 1, 0, 0, 1, 0, 1] := qT rfl
theorem q45_1010010011 : QK 45 g45 [1, 1, 0, 0, 1, 0, 0, 1, 0, 1] := qK rfl
theorem q45_1010011 : QR 45 g45 [1, 1, 0, 0, 1, 0, 1] 3 := qR rfl rfl
theorem q45_11 : QS 45 g45 [1, 1] := qS rfl
theorem q45_110 : QR 45 g45 [0, 1, 1] 4 := qR rfl rfl
theorem q45_111 : QT 45 g45 [1, 1, 1] := qT rfl
theorem q46_ : QS 46 g46 [] := qS rfl
theorem q46_0 : QR 46 g46 [0] 1 := qR rfl rfl
theorem q46_1 : QS 46 g46 [1] := qS rfl
theorem q46_10 : QS 46 g46 [0, 1] := qS rfl
theorem q46_100 : QR 46 g46 [0, 0, 1] 1 := qR rfl rfl
theorem q46_101 : QB 46 g46 [1, 0, 1] 0 := qB rfl
theorem q46_1010 : QL 46 g46 [0, 1, 0, 1] 2 := qL rfl rfl
theorem q46_10100 : QS 46 g46 [0, 0, 1, 0, 1] := qS rfl
theorem q46_101000 : QS 46 g46 [0, 0, 0, 1, 0, 1] := qS rfl
theorem q46_1010000 : QR 46 g46 [0, 0, 0, 0, 1, 0, 1] 4 := qR rfl rfl
theorem q46_1010001 : QC 46 g46 [1, 0, 0, 0, 1, 0, 1] 11 := qC rfl
theorem q46_10100010 : QK 46 g46 [0, 1, 0, 0, 0, 1, 0, 1] := qK rfl
theorem q46_10100011 : QX 46 g46 [1, 1, 0, 0, 0, 1, 0, 1] 0 := qX rfl
theorem q46_101001 : QS 46 g46 [1, 0, 0, 1, 0, 1] := qS rfl
theorem q46_1010010 : QB 46 g46 [0, 1, 0, 0, 1, 0, 1] 1 := qB rfl
theorem q46_10100100 : QS 46 g46 [0, 0, 1, 0, 0, 1, 0, 1] := qS rfl
theorem q46_101001000 : QR 46 g46 [0, 0, 0, 1, 0, 0, 1, 0, 1] 11 := qR rfl rfl
theorem q46_101001001 : QC 46 g46 [1, 0, 0, 1, 0, 0, 1, 0, 1] 24 := qC rfl
theorem q46_1010010010 : QS 46 g46 [0, 1, 0, 0, 1, 0, 0, 1, 0, 1] := qS rfl
theorem q46_10100100100 : QR 46 g46 [0, 0, 1, 0, 0, 1, 0, 0, 1, 0, 1] 1 := qR rfl rfl
theorem q46_10100100101 : QT 46 g46 [1, 0, 1, 0, 0, 1, 0, 0, 1, 0, 1] := qT rfl
theorem q46_1010010011 : QK 46 g46 [1, 1, 0, 0, 1, 0, 0, 1, 0, 1] := qK rfl
theorem q46_1010011 : QR 46 g46 [1, 1, 0, 0, 1, 0, 1] 3 := qR rfl rfl
theorem q46_11 : QS 46 g46 [1, 1] := qS rfl
theorem q46_110 : QR 46 g46 [0, 1, 1] 5 := qR rfl rfl
theorem q46_111 : QT 46 g46 [1, 1, 1] := qT rfl
theorem q47_ : QS 47 g47 [] := qS rfl
theorem q47_0 : QR 47 g47 [0] 1 := qR rfl rfl
theorem q47_1 : QS 47 g47 [1] := qS rfl
theorem q47_10 : QR 47 g47 [0, 1] 2 := qR rfl rfl
theorem q47_11 : QS 47 g47 [1, 1] := qS rfl
theorem q47_110 : QS 47 g47 [0, 1, 1] := qS rfl
theorem q47_1100 : QR 47 g47 [0, 0, 1, 1] 1 := qR rfl rfl
theorem q47_1101 : QB 47 g47 [1, 0, 1, 1] 0 := qB rfl
theorem q47_11010 : QL 47 g47 [0, 1, 0, 1, 1] 3 := qL rfl rfl
theorem q47_110100 : QS 47 g47 [0, 0, 1, 0, 1, 1] := qS rfl
theorem q47_1101000 : QS 47 g47 [0, 0, 0, 1, 0, 1, 1] := qS rfl
theorem q47_11010000 : QR 47 g47 [0, 0, 0, 0, 1, 0, 1, 1] 4 := qR rfl rfl
theorem q47_11010001 : QC 47 g47 [1, 0, 0, 0, 1, 0, 1, 1] 10 := qC rfl
theorem q47_110100010 : QK 47 g47 [0, 1, 0, 0, 0, 1, 0, 1, 1] := qK rfl
theorem q47_110100011 : QX 47 g47 [1, 1, 0, 0, 0, 1, 0, 1, 1] 0 := qX rfl
theorem q47_1101001 : QS 47 g47 [1, 0, 0, 1, 0, 1, 1] := qS rfl
theorem q47_11010010 : QB 47 g47 [0, 1, 0, 0, 1, 0, 1, 1] 1 := qB rfl
theorem q47_110100100 : QS 47 g47 [0, 0, 1, 0, 0, 1, 0, 1, 1] := qS rfl
theorem q47_1101001000 : QR 47 g47 [0, 0, 0, 1, 0, 0, 1, 0, 1, 1] 6 := qR rfl rfl
theorem q47_1101001001 : QC 47 g47 [1, 0, 0, 1, 0, 0, 1, 0, 1, 1] 18 := qC rfl
theorem q47_11010010010 : QS 47 g47 [0, 1, 0, 0, 1, 0, 0, 1, 0, 1, 1] := qS rfl
theorem q47_110100100100 : QR 47 g47 [0, 0, 1, 0, 0, 1, 0, 0, 1, 0, 1, 1] 1 := qR rfl rfl
theorem q47_110100100101 : QT 47 g47 [1, 0, 1, 0, 0, 1, 0, 0, 1, 0, 1, 1] := qT rfl
theorem q47_11010010011 : QK 47 g47 [1, 1, 0, 0, 1, 0, 0, 1, 0, 1, 1] := qK rfl
theorem q47_11010011 : QR 47 g47 [1, 1, 0, 0, 1, 0, 1, 1] 3 := qR rfl rfl
theorem q47_111 : QS 47 g47 [1, 1, 1] := qS rfl
theorem q47_1110 : QS 47 g47 [0, 1, 1, 1] := qS rfl
theorem q47_11100 : QR 47 g47 [0, 0, 1, 1, 1] 1 := qR rfl rfl
theorem q47_11101 : QB 47 g47 [1, 0, 1, 1, 1] 2 := qB rfl
theorem q47_111010 : QL 47 g47 [0, 1, 0, 1, 1, 1] 8 := qL rfl rfl
theorem q47_1110100 : QS 47 g47 [0, 0, 1, 0, 1, 1, 1] := qS rfl
theorem q47_11101000 : QS 47 g47 [0, 0, 0, 1, 0, 1, 1, 1] := qS rfl
theorem q47_111010000 : QR 47 g47 [0, 0, 0, 0, 1, 0, 1, 1, 1] 4 := qR rfl rfl
theorem q47_111010001 : QC 47 g47 [1, 0, 0, 0, 1, 0, 1, 1, 1] 22 := qC rfl
theorem q47_1110100010 : QK 47 g47 [0, 1, 0, 0, 0, 1, 0, 1, 1, 1] := qK rfl
theorem q47_1110100011 : QX 47 g47 [1, 1, 0, 0, 0, 1, 0, 1, 1, 1] 2 := qX rfl
theorem q47_11101001 : QS 47 g47 [1, 0, 0, 1, 0, 1, 1, 1] := qS rfl
theorem q47_111010010 : QB 47 g47 [0, 1, 0, 0, 1, 0, 1, 1, 1] 3 := qB rfl
theorem q47_1110100100 : QS 47 g47 [0, 0, 1, 0, 0, 1, 0, 1, 1, 1] := qS rfl
theorem q47_11101001000 : QR 47 g47 [0, 0, 0, 1, 0, 0, 1, 0, 1, 1, 1] 5 := qR rfl rfl
theorem q47_11101001001 : QC 47 g47 [1, 0, 0, 1, 0, 0, 1, 0, 1, 1, 1] 29 := qC rfl
theorem q47_111010010010 : QS 47 g47 [0, 1, 0, 0, 1, 0, 0, 1, 0, 1, 1, 1] := qS rfl
theorem q47_1110100100100 : QR 47 g47 [0, 0, 1, 0, 0, 1, 0, 0, 1, 0, 1, 1, 1] 1 := qR rfl rfl
theorem q47_1110100100101 : QT 47 g47 [1, 0, 1, 0, 0, 1, 0, 0, 1, 0, 1, 1, 1] := qT rfl
theorem q47_111010010011 : QK 47 g47 [1, 1, 0, 0, 1, 0, 0, 1, 0, 1, 1, 1] := qK rfl
theorem q47_111010011 : QR 47 g47 [1, 1, 0, 0, 1, 0, 1, 1, 1] 3 := qR rfl rfl
theorem q47_1111 : QS 47 g47 [1, 1, 1, 1] := qS rfl
theorem q47_11110 : QR 47 g47 [0, 1, 1, 1, 1] 4 := qR rfl rfl
theorem q47_11111 : QT 47 g47 [1, 1, 1, 1, 1] := qT rfl
theorem q48_ : QS 48 g48 [] := qS rfl
theorem q48_0 : QR 48 g48 [0] 2 := qR rfl rfl
theorem q48_1 : QS 48 g48 [1] := qS rfl
theorem q48_10 : QS 48 g48 [0, 1] := qS rfl
theorem q48_100 : QR 48 g48 [0, 0, 1] 4 := qR rfl rfl
theorem q48_101 : QC 48 g48 [1, 0, 1] 8 := qC rfl
theorem q48_1010 : QS 48 g48 [0, 1, 0, 1] := qS rfl
theorem q48_10100 : QR 48 g48 [0, 0, 1, 0, 1] 3 := qR rfl rfl
theorem q48_10101 : QT 48 g48 [1, 0, 1, 0, 1] := qT rfl
theorem q48_1011 : QK 48 g48 [1, 1, 0, 1] := qK rfl
theorem q48_11 : QS 48 g48 [1, 1] := qS rfl
theorem q48_110 : QR 48 g48 [0, 1, 1] 4 := qR rfl rfl
theorem q48_111 : QS 48 g48 [1, 1, 1] := qS rfl
theorem q48_1110 : QR 48 g48 [0, 1, 1, 1] 2 := qR rfl rfl
theorem q48_1111 : QS 48 g48 [1, 1, 1, 1] := qS rfl
theorem q48_11110 : QS 48 g48 [0, 1, 1, 1, 1] := qS rfl
theorem q48_111100 : QR 48 g48 [0, 0, 1, 1, 1, 1] 13 := qR rfl rfl
theorem q48_111101 : QC 48 g48 [1, 0, 1, 1, 1, 1] 27 := qC rfl
theorem q48_1111010 : QS 48 g48 [0, 1, 0, 1, 1, 1, 1] := qS rfl
theorem q48_11110100 : QR 48 g48 [0, 0, 1, 0, 1, 1, 1, 1] 3 := qR rfl rfl
theorem q48_11110101 : QT 48 g48 [1, 0, 1, 0, 1, 1, 1, 1] := qT rfl
theorem q48_1111011 : QK 48 g48 [1, 1, 0, 1, 1, 1, 1] := qK rfl
theorem q48_11111 : QS 48 g48 [1, 1, 1, 1, 1] := qS rfl
theorem q48_111110 : QR 48 g48 [0, 1, 1, 1, 1, 1] 7 := qR rfl rfl
theorem q48_111111 : QT 48 g48 [1, 1, 1, 1, 1, 1] := qT rfl
theorem q49_ : QS 49 g49 [] := qS rfl
theorem q49_0 : QR 49 g49 [0] 1 := qR rfl rfl
theorem q49_1 : QS 49 g49 [1] := qS rfl
theorem q49_10 : QR 49 g49 [0, 1] 4 := qR rfl rfl
theorem q49_11 : QT 49 g49 [1, 1] := qT rfl
theorem q50_ : QS 50 g50 [] := qS rfl
theorem q50_0 : QR 50 g50 [0] 1 := qR rfl rfl
theorem q50_1 : QS 50 g50 [1] := qS rfl
theorem q50_10 : QS 50 g50 [0, 1] := qS rfl
theorem q50_100 : QR 50 g50 [0, 0, 1] 3 := qR rfl rfl
theorem q50_101 : QB 50 g50 [1, 0, 1] 0 := qB rfl
theorem q50_1010 : QL 50 g50 [0, 1, 0, 1] 2 := qL rfl rfl
theorem q50_10100 : QS 50 g50 [0, 0, 1, 0, 1] := qS rfl
theorem q50_101000 : QR 50 g50 [0, 0, 0, 1, 0, 1] 1 := qR rfl rfl
theorem q50_101001 : QS 50 g50 [1, 0, 0, 1, 0, 1] := qS rfl
theorem q50_1010010 : QC 50 g50 [0, 1, 0, 0, 1, 0, 1] 7 := qC rfl
theorem q50_10100100 : QK 50 g50 [0, 0, 1, 0, 0, 1, 0, 1] := qK rfl
theorem q50_10100101 : QX 50 g50 [1, 0, 1, 0, 0, 1, 0, 1] 0 := qX rfl
theorem q50_1010011 : QS 50 g50 [1, 1, 0, 0, 1, 0, 1] := qS rfl
theorem q50_10100110 : QB 50 g50 [0, 1, 1, 0, 0, 1, 0, 1] 1 := qB rfl
theorem q50_101001100 : QS 50 g50 [0, 0, 1, 1, 0, 0, 1, 0, 1] := qS rfl
theorem q50_1010011000 : QR 50 g50 [0, 0, 0, 1, 1, 0, 0, 1, 0, 1] 2 := qR rfl rfl
theorem q50_1010011001 : QS 50 g50 [1, 0, 0, 1, 1, 0, 0, 1, 0, 1] := qS rfl
theorem q50_10100110010 : QR 50 g50 [0, 1, 0, 0, 1, 1, 0, 0, 1, 0, 1] 5 := qR rfl rfl
theorem q50_10100110011 : QC 50 g50 [1, 1, 0, 0, 1, 1, 0, 0, 1, 0, 1] 13 := qC rfl
theorem q50_101001100110 : QS 50 g50 [0, 1, 1, 0, 0, 1, 1, 0, 0, 1, 0, 1] := qS rfl
theorem q50_1010011001100 : QR 50 g50 [0, 0, 1, 1, 0, 0, 1, 1, 0, 0, 1, 0, 1] 1 := qR rfl rfl
theorem q50_1010011001101 : QT 50 g50 [1, 0, 1, 1, 0, 0, 1, 1, 0, 0, 1, 0, 1] := qT rfl
theorem q50_101001100111 : QK 50 g50 [1, 1, 1, 0, 0, 1, 1, 0, 0, 1, 0, 1] := qK rfl
theorem q50_10100111 : QR 50 g50 [1, 1, 1, 0, 0, 1, 0, 1] 2 := qR rfl rfl
theorem q50_11 : QS 50 g50 [1, 1] := qS rfl
theorem q50_110 : QR 50 g50 [0, 1, 1] 4 := qR rfl rfl
theorem q50_111 : QT 50 g50 [1, 1, 1] := qT rfl
theorem q51_ : QS 51 g51 [] := qS rfl
theorem q51_0 : QR 51 g51 [0] 1 := qR rfl rfl
theorem q51_1 : QS 51 g51 [1] := qS rfl
theorem q51_10 : QR 51 g51 [0, 1] 4 := qR rfl rfl
theorem q51_11 : QT 51 g51 [1, 1] := qT rfl
theorem q52_ : QS 52 g52 [] := qS rfl
theorem q52_0 : QR 52 g52 [0] 1 := qR rfl rfl
theorem q52_1 : QS 52 g52 [1] := qS rfl
theorem q52_10 : QR 52 g52 [0, 1] 3 := qR rfl rfl
theorem q52_11 : QS 52 g52 [1, 1] := qS rfl
theorem q52_110 : QB 52 g52 [0, 1, 1] 0 := qB rfl
theorem q52_1100 : QL 52 g52 [0, 0, 1, 1] 2 := qL rfl rfl
theorem q52_11000 : QS 52 g52 [0, 0, 0, 1, 1] := qS rfl
theorem q52_110000 : QS 52 g52 [0, 0, 0, 0, 1, 1] := qS rfl
theorem q52_1100000 : QR 52 g52 [0, 0, 0, 0, 0, 1, 1] 9 := qR rfl rfl
theorem q52_1100001 : QC 52 g52 [1, 0, 0, 0, 0, 1, 1] 15 := qC rfl
theorem q52_11000010 : QK 52 g52 [0, 1, 0, 0, 0, 0, 1, 1] := qK rfl
theorem q52_11000011 : QX 52 g52 [1, 1, 0, 0, 0, 0, 1, 1] 0 := qX rfl
theorem q52_110001 : QB 52 g52 [1, 0, 0, 0, 1, 1] 1 := qB rfl
theorem q52_1100010 : QS 52 g52 [0, 1, 0, 0, 0, 1, 1] := qS rfl
theorem q52_11000100 : QR 52 g52 [0, 0, 1, 0, 0, 0, 1, 1] 3 := qR rfl rfl
theorem q52_11000101 : QR 52 g52 [1, 0, 1, 0, 0, 0, 1, 1] 6 := qR rfl rfl
theorem q52_111 : QS 52 g52 [1, 1, 1] := qS rfl
theorem q52_1110 : QR 52 g52 [0, 1, 1, 1] 2 := qR rfl rfl
theorem q52_1111 : QT 52 g52 [1, 1, 1, 1] := qT rfl
theorem q53_ : QS 53 g53 [] := qS rfl
theorem q53_0 : QR 53 g53 [0] 2 := qR rfl rfl
theorem q53_1 : QS 53 g53 [1] := qS rfl
theorem q53_10 : QS 53 g53 [0, 1] := qS rfl
theorem q53_100 : QR 53 g53 [0, 0, 1] 4 := qR rfl rfl
theorem q53_101 : QB 53 g53 [1, 0, 1] 0 := qB rfl
theorem q53_1010 : QL 53 g53 [0, 1, 0, 1] 2 := qL rfl rfl
theorem q53_10100 : QS 53 g53 [0, 0, 1, 0, 1] := qS rfl
theorem q53_101000 : QR 53 g53 [0, 0, 0, 1, 0, 1] 1 := qR rfl rfl
theorem q53_101001 : QS 53 g53 [1, 0, 0, 1, 0, 1] := qS rfl
theorem q53_1010010 : QC 53 g53 [0, 1, 0, 0, 1, 0, 1] 9 := qC rfl
theorem q53_10100100 : QK 53 g53 [0, 0, 1, 0, 0, 1, 0, 1] := qK rfl
theorem q53_10100101 : QX 53 g53 [1, 0, 1, 0, 0, 1, 0, 1] 0 := qX rfl
theorem q53_1010011 : QS 53 g53 [1, 1, 0, 0, 1, 0, 1] := qS rfl
theorem q53_10100110 : QB 53 g53 [0, 1, 1, 0, 0, 1, 0, 1] 1 := qB rfl
theorem q53_101001100 : QS 53 g53 [0, 0, 1, 1, 0, 0, 1, 0, 1] := qS rfl
theorem q53_1010011000 : QR 53 g53 [0, 0, 0, 1, 1, 0, 0, 1, 0, 1] 6 := qR rfl rfl
theorem q53_1010011001 : QS 53 g53 [1, 0, 0, 1, 1, 0, 0, 1, 0, 1] := qS rfl
theorem q53_10100110010 : QR 53 g53 [0, 1, 0, 0, 1, 1, 0, 0, 1, 0, 1] 4 := qR rfl rfl
theorem q53_10100110011 : QC 53 g53 [1, 1, 0, 0, 1, 1, 0, 0, 1, 0, 1] 16 := qC rfl
theorem q53_101001100110 : QS 53 g53 [0, 1, 1, 0, 0, 1, 1, 0, 0, 1, 0, 1] := qS rfl
theorem q53_1010011001100 : QR 53 g53 [0, 0, 1, 1, 0, 0, 1, 1, 0, 0, 1, 0, 1] 1 := qR rfl rfl
theorem q53_1010011001101 : QT 53 g53 [1, 0, 1, 1, 0, 0, 1, 1, 0, 0, 1, 0, 1] := qT rfl
theorem q53_101001100111 : QK 53 g53 [1, 1, 1, 0, 0, 1, 1, 0, 0, 1, 0, 1] := qK rfl
theorem q53_10100111 : QR 53 g53 [1, 1, 1, 0, 0, 1, 0, 1] 2 := qR rfl rfl
theorem q53_11 : QS 53 g53 [1, 1] := qS rfl
theorem q53_110 : QR 53 g53 [0, 1, 1] 5 := qR rfl rfl
theorem q53_111 : QT 53 g53 [1, 1, 1] := qT rfl
theorem q55_ : QS 55 g55 [] := qS rfl
theorem q55_0 : QR 55 g55 [0] 1 := qR rfl rfl
theorem q55_1 : QS 55 g55 [1] := qS rfl
theorem q55_10 : QR 55 g55 [0, 1] 15 := qR rfl rfl
theorem q55_11 : QT 55 g55 [1, 1] := qT rfl
theorem q56_ : QS 56 g56 [] := qS rfl
theorem q56_0 : QR 56 g56 [0] 1 := qR rfl rfl
theorem q56_1 : QS 56 g56 [1] := qS rfl
theorem q56_10 : QR 56 g56 [0, 1] 3 := qR rfl rfl
theorem q56_11 : QS 56 g56 [1, 1] := qS rfl
theorem q56_110 : QB 56 g56 [0, 1, 1] 0 := qB rfl
theorem q56_1100 : QL 56 g56 [0, 0, 1, 1] 2 := qL rfl rfl
theorem q56_11000 : QS 56 g56 [0, 0, 0, 1, 1] := qS rfl
theorem q56_110000 : QS 56 g56 [0, 0, 0, 0, 1, 1] := qS rfl
theorem q56_1100000 : QR 56 g56 [0, 0, 0, 0, 0, 1, 1] 2 := qR rfl rfl
theorem q56_1100001 : QC 56 g56 [1, 0, 0, 0, 0, 1, 1] 8 := qC rfl
theorem q56_11000010 : QK 56 g56 [0, 1, 0, 0, 0, 0, 1, 1] := qK rfl
theorem q56_11000011 : QX 56 g56 [1, 1, 0, 0, 0, 0, 1, 1] 0 := qX rfl
theorem q56_110001 : QB 56 g56 [1, 0, 0, 0, 1, 1] 1 := qB rfl
theorem q56_1100010 : QS 56 g56 [0, 1, 0, 0, 0, 1, 1] := qS rfl
theorem q56_11000100 : QR 56 g56 [0, 0, 1, 0, 0, 0, 1, 1] 9 := qR rfl rfl
theorem q56_11000101 : QS 56 g56 [1, 0, 1, 0, 0, 0, 1, 1] := qS rfl
theorem q56_110001010 : QR 56 g56 [0, 1, 0, 1, 0, 0, 0, 1, 1] 3 := qR rfl rfl
theorem q56_110001011 : QR 56 g56 [1, 1, 0, 1, 0, 0, 0, 1, 1] 7 := qR rfl rfl
theorem q56_111 : QS 56 g56 [1, 1, 1] := qS rfl
theorem q56_1110 : QR 56 g56 [0, 1, 1, 1] 2 := qR rfl rfl
theorem q56_1111 : QT 56 g56 [1, 1, 1, 1] := qT rfl
theorem q57_ : QS 57 g57 [] := qS rfl
theorem q57_0 : QR 57 g57 [0] 1 := qR rfl rfl
theorem q57_1 : QS 57 g57 [1] := qS rfl
theorem q57_10 : QR 57 g57 [0, 1] 9 := qR rfl rfl
theorem q57_11 : QT 57 g57 [1, 1] := qT rfl
theorem q58_ : QS 58 g58 [] := qS rfl
theorem q58_0 : QR 58 g58 [0] 1 := qR rfl rfl
theorem q58_1 : QS 58 g58 [1] := qS rfl
theorem q58_10 : QR 58 g58 [0, 1] 5 := qR rfl rfl
theorem q58_11 : QT 58 g58 [1, 1] := qT rfl
theorem q59_ : QS 59 g59 [] := qS rfl
theorem q59_0 : QR 59 g59 [0] 1 := qR rfl rfl
theorem q59_1 : QS 59 g59 [1] := qS rfl
theorem q59_10 : QS 59 g59 [0, 1] := qS rfl
theorem q59_100 : QR 59 g59 [0, 0, 1] 13 := qR rfl rfl
theorem q59_101 : QC 59 g59 [1, 0, 1] 17 := qC rfl
theorem q59_1010 : QS 59 g59 [0, 1, 0, 1] := qS rfl
theorem q59_10100 : QR 59 g59 [0, 0, 1, 0, 1] 3 := qR rfl rfl
theorem q59_10101 : QT 59 g59 [1, 0, 1, 0, 1] := qT rfl
theorem q59_1011 : QK 59 g59 [1, 1, 0, 1] := qK rfl
theorem q59_11 : QS 59 g59 [1, 1] := qS rfl
theorem q59_110 : QR 59 g59 [0, 1, 1] 3 := qR rfl rfl
theorem q59_111 : QS 59 g59 [1, 1, 1] := qS rfl
theorem q59_1110 : QB 59 g59 [0, 1, 1, 1] 0 := qB rfl
theorem q59_11100 : QL 59 g59 [0, 0, 1, 1, 1] 4 := qL rfl rfl
theorem q59_111000 : QS 59 g59 [0, 0, 0, 1, 1, 1] := qS rfl
theorem q59_1110000 : QS 59 g59 [0, 0, 0, 0, 1, 1, 1] := qS rfl
theorem q59_11100000 : QR 59 g59 [0, 0, 0, 0, 0, 1, 1, 1] 22 := qR rfl rfl
theorem q59_11100001 : QC 59 g59 [1, 0, 0, 0, 0, 1, 1, 1] 43 := qC rfl
theorem q59_111000010 : QK 59 g59 [0, 1, 0, 0, 0, 0, 1, 1, 1] := qK rfl
theorem q59_111000011 : QX 59 g59 [1, 1, 0, 0, 0, 0, 1, 1, 1] 0 := qX rfl
theorem q59_1110001 : QB 59 g59 [1, 0, 0, 0, 1, 1, 1] 1 := qB rfl
theorem q59_11100010 : QS 59 g59 [0, 1, 0, 0, 0, 1, 1, 1] := qS rfl
theorem q59_111000100 : QR 59 g59 [0, 0, 1, 0, 0, 0, 1, 1, 1] 3 := qR rfl rfl
theorem q59_111000101 : QR 59 g59 [1, 0, 1, 0, 0, 0, 1, 1, 1] 6 := qR rfl rfl
theorem q59_1111 : QS 59 g59 [1, 1, 1, 1] := qS rfl
theorem q59_11110 : QR 59 g59 [0, 1, 1, 1, 1] 2 := qR rfl rfl
theorem q59_11111 : QT 59 g59 [1, 1, 1, 1, 1] := qT rfl
theorem q60_ : QS 60 g60 [] := qS rfl
theorem q60_0 : QR 60 g60 [0] 1 := qR rfl rfl
theorem q60_1 : QS 60 g60 [1] := qS rfl
theorem q60_10 : QR 60 g60 [0, 1] 4 := qR rfl rfl
theorem q60_11 : QS 60 g60 [1, 1] := qS rfl
theorem q60_110 : QS 60 g60 [0, 1, 1] := qS rfl
theorem q60_1100 : QR 60 g60 [0, 0, 1, 1] 1 := qR rfl rfl
theorem q60_1101 : QC 60 g60 [1, 0, 1, 1] 9 := qC rfl
theorem q60_11010 : QR 60 g60 [0, 1, 0, 1, 1] 9 := qR rfl rfl
theorem q60_11011 : QK 60 g60 [1, 1, 0, 1, 1] := qK rfl
theorem q60_111 : QS 60 g60 [1, 1, 1] := qS rfl
theorem q60_1110 : QR 60 g60 [0, 1, 1, 1] 2 := qR rfl rfl
theorem q60_1111 : QT 60 g60 [1, 1, 1, 1] := qT rfl
theorem q61_ : QS 61 g61 [] := qS rfl
theorem q61_0 : QR 61 g61 [0] 1 := qR rfl rfl
theorem q61_1 : QS 61 g61 [1] := qS rfl
theorem q61_10 : QD 61 g61 [0, 1] 17 := qD rfl rfl
theorem q61_11 : QS 61 g61 [1, 1] := qS rfl
theorem q61_110 : QR 61 g61 [0, 1, 1] 8 := qR rfl rfl
theorem q61_111 : QT 61 g61 [1, 1, 1] := qT rfl
theorem q62_ : QS 62 g62 [] := qS rfl
theorem q62_0 : QR 62 g62 [0] 2 := qR rfl rfl
theorem q62_1 : QS 62 g62 [1] := qS rfl
theorem q62_10 : QR 62 g62 [0, 1] 1 := qR rfl rfl
theorem q62_11 : QS 62 g62 [1, 1] := qS rfl
theorem q62_110 : QS 62 g62 [0, 1, 1] := qS rfl
theorem q62_1100 : QR 62 g62 [0, 0, 1, 1] 2 := qR rfl rfl
theorem q62_1101 : QB 62 g62 [1, 0, 1, 1] 0 := qB rfl
theorem q62_11010 : QS 62 g62 [0, 1, 0, 1, 1] := qS rfl
theorem q62_110100 : QS 62 g62 [0, 0, 1, 0, 1, 1] := qS rfl
theorem q62_1101000 : QR 62 g62 [0, 0, 0, 1, 0, 1, 1] 2 := qR rfl rfl
theorem q62_1101001 : QC 62 g62 [1, 0, 0, 1, 0, 1, 1] 9 := qC rfl
theorem q62_11010010 : QK 62 g62 [0, 1, 0, 0, 1, 0, 1, 1] := qK rfl
theorem q62_11010011 : QR 62 g62 [1, 1, 0, 0, 1, 0, 1, 1] 2 := qR rfl rfl
theorem q62_110101 : QC 62 g62 [1, 0, 1, 0, 1, 1] 9 := qC rfl
theorem q62_1101010 : QR 62 g62 [0, 1, 0, 1, 0, 1, 1] 1 := qR rfl rfl
theorem q62_1101011 : QS 62 g62 [1, 1, 0, 1, 0, 1, 1] := qS rfl
theorem q62_11010110 : QS 62 g62 [0, 1, 1, 0, 1, 0, 1, 1] := qS rfl
theorem q62_110101100 : QR 62 g62 [0, 0, 1, 1, 0, 1, 0, 1, 1] 2 := qR rfl rfl
theorem q62_110101101 : QC 62 g62 [1, 0, 1, 1, 0, 1, 0, 1, 1] 12 := qC rfl
theorem q62_1101011010 : QK 62 g62 [0, 1, 0, 1, 1, 0, 1, 0, 1, 1] := qK rfl
theorem q62_1101011011 : QS 62 g62 [1, 1, 0, 1, 1, 0, 1, 0, 1, 1] := qS rfl
theorem q62_11010110110 : QR 62 g62 [0, 1, 1, 0, 1, 1, 0, 1, 0, 1, 1] 2 := qR rfl rfl
theorem q62_11010110111 : QC 62 g62 [1, 1, 1, 0, 1, 1, 0, 1, 0, 1, 1] 12 := qC rfl
theorem q62_110101101110 : QK 62 g62 [0, 1, 1, 1, 0, 1, 1, 0, 1, 0, 1, 1] := qK rfl
theorem q62_110101101111 : QR 62 g62 [1, 1, 1, 1, 0, 1, 1, 0, 1, 0, 1, 1] 2 := qR rfl rfl
theorem q62_11010111 : QC 62 g62 [1, 1, 1, 0, 1, 0, 1, 1] 12 := qC rfl
theorem q62_110101110 : QR 62 g62 [0, 1, 1, 1, 0, 1, 0, 1, 1] 1 := qR rfl rfl
theorem q62_110101111 : QK 62 g62 [1, 1, 1, 1, 0, 1, 0, 1, 1] := qK rfl
theorem q62_111 : QS 62 g62 [1, 1, 1] := qS rfl
theorem q62_1110 : QR 62 g62 [0, 1, 1, 1] 4 := qR rfl rfl
theorem q62_1111 : QS 62 g62 [1, 1, 1, 1] := qS rfl
theorem q62_11110 : QS 62 g62 [0, 1, 1, 1, 1] := qS rfl
theorem q62_111100 : QR 62 g62 [0, 0, 1, 1, 1, 1] 2 := qR rfl rfl
theorem q62_111101 : QB 62 g62 [1, 0, 1, 1, 1, 1] 1 := qB rfl
theorem q62_1111010 : QS 62 g62 [0, 1, 0, 1, 1, 1, 1] := qS rfl
theorem q62_11110100 : QR 62 g62 [0, 0, 1, 0, 1, 1, 1, 1] 2 := qR rfl rfl
theorem q62_11110101 : QC 62 g62 [1, 0, 1, 0, 1, 1, 1, 1] 21 := qC rfl
theorem q62_111101010 : QR 62 g62 [0, 1, 0, 1, 0, 1, 1, 1, 1] 5 := qR rfl rfl
theorem q62_111101011 : QS 62 g62 [1, 1, 0, 1, 0, 1, 1, 1, 1] := qS rfl
theorem q62_1111010110 : QS 62 g62 [0, 1, 1, 0, 1, 0, 1, 1, 1, 1] := qS rfl
theorem q62_11110101100 : QR 62 g62 [0, 0, 1, 1, 0, 1, 0, 1, 1, 1, 1] 2 := qR rfl rfl
theorem q62_11110101101 : QC 62 g62 [1, 0, 1, 1, 0, 1, 0, 1, 1, 1, 1] 27 := qC rfl
theorem q62_111101011010 : QK 62 g62 [0, 1, 0, 1, 1, 0, 1, 0, 1, 1, 1, 1] := qK rfl
theorem q62_111101011011 : QR 62 g62 [1, 1, 0, 1, 1, 0, 1, 0, 1, 1, 1, 1] 2 := qR rfl rfl
theorem q62_1111010111 : QC 62 g62 [1, 1, 1, 0, 1, 0, 1, 1, 1, 1] 27 := qC rfl
theorem q62_11110101110 : QR 62 g62 [0, 1, 1, 1, 0, 1, 0, 1, 1, 1, 1] 5 := qR rfl rfl
theorem q62_11110101111 : QK 62 g62 [1, 1, 1, 1, 0, 1, 0, 1, 1, 1, 1] := qK rfl
theorem q62_11111 : QS 62 g62 [1, 1, 1, 1, 1] := qS rfl
theorem q62_111110 : QR 62 g62 [0, 1, 1, 1, 1, 1] 20 := qR rfl rfl
theorem q62_111111 : QT 62 g62 [1, 1, 1, 1, 1, 1] := qT rfl
theorem q67_ : QS 67 g67 [] := qS rfl
theorem q67_0 : QR 67 g67 [0] 1 := qR rfl rfl
theorem q67_1 : QS 67 g67 [1] := qS rfl
theorem q67_10 : QS 67 g67 [0, 1] := qS rfl
theorem q67_100 : QD 67 g67 [0, 0, 1] 34 := qD rfl rfl
theorem q67_101 : QC 67 g67 [1, 0, 1] 38 := qC rfl
theorem q67_1010 : QS 67 g67 [0, 1, 0, 1] := qS rfl
theorem q67_10100 : QR 67 g67 [0, 0, 1, 0, 1] 4 := qR rfl rfl
theorem q67_10101 : QT 67 g67 [1, 0, 1, 0, 1] := qT rfl
theorem q67_1011 : QK 67 g67 [1, 1, 0, 1] := qK rfl
theorem q67_11 : QS 67 g67 [1, 1] := qS rfl
theorem q67_110 : QR 67 g67 [0, 1, 1] 3 := qR rfl rfl
theorem q67_111 : QS 67 g67 [1, 1, 1] := qS rfl
theorem q67_1110 : QB 67 g67 [0, 1, 1, 1] 0 := qB rfl
theorem q67_11100 : QL 67 g67 [0, 0, 1, 1, 1] 4 := qL rfl rfl
theorem q67_111000 : QS 67 g67 [0, 0, 0, 1, 1, 1] := qS rfl
theorem q67_1110000 : QS 67 g67 [0, 0, 0, 0, 1, 1, 1] := qS rfl
theorem q67_11100000 : QD 67 g67 [0, 0, 0, 0, 0, 1, 1, 1] 41 := qD rfl rfl
theorem q67_11100001 : QC 67 g67 [1, 0, 0, 0, 0, 1, 1, 1] 84 := qC rfl
theorem q67_111000010 : QK 67 g67 [0, 1, 0, 0, 0, 0, 1, 1, 1] := qK rfl
theorem q67_111000011 : QX 67 g67 [1, 1, 0, 0, 0, 0, 1, 1, 1] 0 := qX rfl
theorem q67_1110001 : QB 67 g67 [1, 0, 0, 0, 1, 1, 1] 1 := qB rfl
theorem q67_11100010 : QS 67 g67 [0, 1, 0, 0, 0, 1, 1, 1] := qS rfl
theorem q67_111000100 : QR 67 g67 [0, 0, 1, 0, 0, 0, 1, 1, 1] 3 := qR rfl rfl
theorem q67_111000101 : QR 67 g67 [1, 0, 1, 0, 0, 0, 1, 1, 1] 7 := qR rfl rfl
theorem q67_1111 : QS 67 g67 [1, 1, 1, 1] := qS rfl
theorem q67_11110 : QR 67 g67 [0, 1, 1, 1, 1] 2 := qR rfl rfl
theorem q67_11111 : QT 67 g67 [1, 1, 1, 1, 1] := qT rfl
theorem q68_ : QS 68 g68 [] := qS rfl
theorem q68_0 : QR 68 g68 [0] 1 := qR rfl rfl
theorem q68_1 : QS 68 g68 [1] := qS rfl
theorem q68_10 : QD 68 g68 [0, 1] 31 := qD rfl rfl
theorem q68_11 : QT 68 g68 [1, 1] := qT rfl
theorem q69_ : QS 69 g69 [] := qS rfl
theorem q69_0 : QR 69 g69 [0] 2 := qR rfl rfl
theorem q69_1 : QS 69 g69 [1] := qS rfl
theorem q69_10 : QD 69 g69 [0, 1] 11 := qD rfl rfl
theorem q69_11 : QS 69 g69 [1, 1] := qS rfl
theorem q69_110 : QS 69 g69 [0, 1, 1] := qS rfl
theorem q69_1100 : QR 69 g69 [0, 0, 1, 1] 6 := qR rfl rfl
theorem q69_1101 : QC 69 g69 [1, 0, 1, 1] 20 := qC rfl
theorem q69_11010 : QR 69 g69 [0, 1, 0, 1, 1] 4 := qR rfl rfl
theorem q69_11011 : QK 69 g69 [1, 1, 0, 1, 1] := qK rfl
theorem q69_111 : QS 69 g69 [1, 1, 1] := qS rfl
theorem q69_1110 : QR 69 g69 [0, 1, 1, 1] 7 := qR rfl rfl
theorem q69_1111 : QT 69 g69 [1, 1, 1, 1] := qT rfl
theorem q70_ : QS 70 g70 [] := qS rfl
theorem q70_0 : QR 70 g70 [0] 1 := qR rfl rfl
theorem q70_1 : QS 70 g70 [1] := qS rfl
theorem q70_10 : QS 70 g70 [0, 1] := qS rfl
theorem q70_100 : QR 70 g70 [0, 0, 1] 3 := qR rfl rfl
theorem q70_101 : QB 70 g70 [1, 0, 1] 0 := qB rfl
theorem q70_1010 : QL 70 g70 [0, 1, 0, 1] 2 := qL rfl rfl
theorem q70_10100 : QS 70 g70 [0, 0, 1, 0, 1] := qS rfl
theorem q70_101000 : QR 70 g70 [0, 0, 0, 1, 0, 1] 1 := qR rfl rfl
theorem q70_101001 : QS 70 g70 [1, 0, 0, 1, 0, 1] := qS rfl
theorem q70_1010010 : QC 70 g70 [0, 1, 0, 0, 1, 0, 1] 9 := qC rfl
theorem q70_10100100 : QK 70 g70 [0, 0, 1, 0, 0, 1, 0, 1] := qK rfl
theorem q70_10100101 : QX 70 g70 [1, 0, 1, 0, 0, 1, 0, 1] 0 := qX rfl
theorem q70_1010011 : QS 70 g70 [1, 1, 0, 0, 1, 0, 1] := qS rfl
theorem q70_10100110 : QB 70 g70 [0, 1, 1, 0, 0, 1, 0, 1] 1 := qB rfl
theorem q70_101001100 : QS 70 g70 [0, 0, 1, 1, 0, 0, 1, 0, 1] := qS rfl
theorem q70_1010011000 : QR 70 g70 [0, 0, 0, 1, 1, 0, 0, 1, 0, 1] 2 := qR rfl rfl
theorem q70_1010011001 : QS 70 g70 [1, 0, 0, 1, 1, 0, 0, 1, 0, 1] := qS rfl
theorem q70_10100110010 : QR 70 g70 [0, 1, 0, 0, 1, 1, 0, 0, 1, 0, 1] 6 := qR rfl rfl
theorem q70_10100110011 : QC 70 g70 [1, 1, 0, 0, 1, 1, 0, 0, 1, 0, 1] 16 := qC rfl
theorem q70_101001100110 : QS 70 g70 [0, 1, 1, 0, 0, 1, 1, 0, 0, 1, 0, 1] := qS rfl
theorem q70_1010011001100 : QR 70 g70 [0, 0, 1, 1, 0, 0, 1, 1, 0, 0, 1, 0, 1] 2 := qR rfl rfl
theorem q70_1010011001101 : QT 70 g70 [1, 0, 1, 1, 0, 0, 1, 1, 0, 0, 1, 0, 1] := qT rfl
theorem q70_101001100111 : QK 70 g70 [1, 1, 1, 0, 0, 1, 1, 0, 0, 1, 0, 1] := qK rfl
theorem q70_10100111 : QR 70 g70 [1, 1, 1, 0, 0, 1, 0, 1] 2 := qR rfl rfl
theorem q70_11 : QS 70 g70 [1, 1] := qS rfl
theorem q70_110 : QR 70 g70 [0, 1, 1] 1 := qR rfl rfl
theorem q70_111 : QT 70 g70 [1, 1, 1] := qT rfl
theorem q71_ : QS 71 g71 [] := qS rfl
theorem q71_0 : QR 71 g71 [0] 1 := qR rfl rfl
theorem q71_1 : QS 71 g71 [1] := qS rfl
theorem q71_10 : QR 71 g71 [0, 1] 15 := qR rfl rfl
theorem q71_11 : QT 71 g71 [1, 1] := qT rfl
theorem q72_ : QS 72 g72 [] := qS rfl
theorem q72_0 : QR 72 g72 [0] 1 := qR rfl rfl
theorem q72_1 : QS 72 g72 [1] := qS rfl
theorem q72_10 : QR 72 g72 [0, 1] 3 := qR rfl rfl
theorem q72_11 : QS 72 g72 [1, 1] := qS rfl
theorem q72_110 : QB 72 g72 [0, 1, 1] 0 := qB rfl
theorem q72_1100 : QL 72 g72 [0, 0, 1, 1] 2 := qL rfl rfl
theorem q72_11000 : QS 72 g72 [0, 0, 0, 1, 1] := qS rfl
theorem q72_110000 : QS 72 g72 [0, 0, 0, 0, 1, 1] := qS rfl
theorem q72_1100000 : QR 72 g72 [0, 0, 0, 0, 0, 1, 1] 5 := qR rfl rfl
theorem q72_1100001 : QC 72 g72 [1, 0, 0, 0, 0, 1, 1] 10 := qC rfl
theorem q72_11000010 : QK 72 g72 [0, 1, 0, 0, 0, 0, 1, 1] := qK rfl
theorem q72_11000011 : QX 72 g72 [1, 1, 0, 0, 0, 0, 1, 1] 0 := qX rfl
theorem q72_110001 : QB 72 g72 [1, 0, 0, 0, 1, 1] 1 := qB rfl
theorem q72_1100010 : QB 72 g72 [0, 1, 0, 0, 0, 1, 1] 2 := qB rfl
theorem q72_11000100 : QS 72 g72 [0, 0, 1, 0, 0, 0, 1, 1] := qS rfl
theorem q72_110001000 : QR 72 g72 [0, 0, 0, 1, 0, 0, 0, 1, 1] 3 := qR rfl rfl
theorem q72_110001001 : QC 72 g72 [1, 0, 0, 1, 0, 0, 0, 1, 1] 12 := qC rfl
theorem q72_1100010010 : QR 72 g72 [0, 1, 0, 0, 1, 0, 0, 0, 1, 1] 5 := qR rfl rfl
theorem q72_1100010011 : QS 72 g72 [1, 1, 0, 0, 1, 0, 0, 0, 1, 1] := qS rfl
theorem q72_11000100110 : QR 72 g72 [0, 1, 1, 0, 0, 1, 0, 0, 0, 1, 1] 3 := qR rfl rfl
theorem q72_11000100111 : QC 72 g72 [1, 1, 1, 0, 0, 1, 0, 0, 0, 1, 1] 19 := qC rfl
theorem q72_110001001110 : QR 72 g72 [0, 1, 1, 1, 0, 0, 1, 0, 0, 0, 1, 1] 5 := qR rfl rfl
theorem q72_110001001111 : QS 72 g72 [1, 1, 1, 1, 0, 0, 1, 0, 0, 0, 1, 1] := qS rfl
theorem q72_1100010011110 : QR 72 g72 [0, 1, 1, 1, 1, 0, 0, 1, 0, 0, 0, 1, 1] 3 := qR rfl rfl
theorem q72_1100010011111 : QC 72 g72 [1, 1, 1, 1, 1, 0, 0, 1, 0, 0, 0, 1, 1] 26 := qC rfl
theorem q72_11000100111110 : QR 72 g72 [0, 1, 1, 1, 1, 1, 0, 0, 1, 0, 0, 0, 1, 1] 5 := qR rfl rfl
theorem q72_11000100111111 : QS 72 g72 [1, 1, 1, 1, 1, 1, 0, 0, 1, 0, 0, 0, 1, 1] := qS rfl
theorem q72_110001001111110 : QR 72 g72 [0, 1, 1, 1, 1, 1, 1, 0, 0, 1, 0, 0, 0, 1, 1] 2 := qR rfl rfl
theorem q72_110001001111111 : QT 72 g72 [1, 1, 1, 1, 1, 1, 1, 0, 0, 1, 0, 0, 0, 1, 1] := qT rfl
theorem q72_111 : QS 72 g72 [1, 1, 1] := qS rfl
theorem q72_1110 : QR 72 g72 [0, 1, 1, 1] 2 := qR rfl rfl
theorem q72_1111 : QT 72 g72 [1, 1, 1, 1] := qT rfl
theorem q73_ : QS 73 g73 [] := qS rfl
theorem q73_0 : QR 73 g73 [0] 1 := qR rfl rfl
theorem q73_1 : QS 73 g73 [1] := qS rfl
theorem q73_10 : QR 73 g73 [0, 1] 4 := qR rfl rfl
theorem q73_11 : QT 73 g73 [1, 1] := qT rfl
theorem q74_ : QS 74 g74 [] := qS rfl
theorem q74_0 : QR 74 g74 [0] 1 := qR rfl rfl
theorem q74_1 : QS 74 g74 [1] := qS rfl
theorem q74_10 : QR 74 g74 [0, 1] 4 := qR rfl rfl
theorem q74_11 : QT 74 g74 [1, 1] := qT rfl
theorem q78_ : QS 78 g78 [] := qS rfl
theorem q78_0 : QR 78 g78 [0] 1 := qR rfl rfl
theorem q78_1 : QS 78 g78 [1] := qS rfl
theorem q78_10 : QR 78 g78 [0, 1] 3 := qR rfl rfl
theorem q78_11 : QS 78 g78 [1, 1] := qS rfl
theorem q78_110 : QB 78 g78 [0, 1, 1] 0 := qB rfl
theorem q78_1100 : QL 78 g78 [0, 0, 1, 1] 2 := qL rfl rfl
theorem q78_11000 : QS 78 g78 [0, 0, 0, 1, 1] := qS rfl
theorem q78_110000 : QS 78 g78 [0, 0, 0, 0, 1, 1] := qS rfl
theorem q78_1100000 : QR 78 g78 [0, 0, 0, 0, 0, 1, 1] 10 := qR rfl rfl
theorem q78_1100001 : QC 78 g78 [1, 0, 0, 0, 0, 1, 1] 16 := qC rfl
theorem q78_11000010 : QK 78 g78 [0, 1, 0, 0, 0, 0, 1, 1] := qK rfl
theorem q78_11000011 : QX 78 g78 [1, 1, 0, 0, 0, 0, 1, 1] 0 := qX rfl
theorem q78_110001 : QB 78 g78 [1, 0, 0, 0, 1, 1] 1 := qB rfl
theorem q78_1100010 : QS 78 g78 [0, 1, 0, 0, 0, 1, 1] := qS rfl
theorem q78_11000100 : QR 78 g78 [0, 0, 1, 0, 0, 0, 1, 1] 1 := qR rfl rfl
theorem q78_11000101 : QS 78 g78 [1, 0, 1, 0, 0, 0, 1, 1] := qS rfl
theorem q78_110001010 : QS 78 g78 [0, 1, 0, 1, 0, 0, 0, 1, 1] := qS rfl
theorem q78_1100010100 : QD 78 g78 [0, 0, 1, 0, 1, 0, 0, 0, 1, 1] 10 := qD rfl rfl
theorem q78_1100010101 : QC 78 g78 [1, 0, 1, 0, 1, 0, 0, 0, 1, 1] 26 := qC rfl
theorem q78_11000101010 : QR 78 g78 [0, 1, 0, 1, 0, 1, 0, 0, 0, 1, 1] 1 := qR rfl rfl
theorem q78_11000101011 : QK 78 g78 [1, 1, 0, 1, 0, 1, 0, 0, 0, 1, 1] := qK rfl
theorem q78_110001011 : QS 78 g78 [1, 1, 0, 1, 0, 0, 0, 1, 1] := qS rfl
theorem q78_1100010110 : QS 78 g78 [0, 1, 1, 0, 1, 0, 0, 0, 1, 1] := qS rfl
theorem q78_11000101100 : QD 78 g78 [0, 0, 1, 1, 0, 1, 0, 0, 0, 1, 1] 10 := qD rfl rfl
theorem q78_11000101101 : QC 78 g78 [1, 0, 1, 1, 0, 1, 0, 0, 0, 1, 1] 36 := qC rfl
theorem q78_110001011010 : QR 78 g78 [0, 1, 0, 1, 1, 0, 1, 0, 0, 0, 1, 1] 1 := qR rfl rfl
theorem q78_110001011011 : QK 78 g78 [1, 1, 0, 1, 1, 0, 1, 0, 0, 0, 1, 1] := qK rfl
theorem q78_1100010111 : QS 78 g78 [1, 1, 1, 0, 1, 0, 0, 0, 1, 1] := qS rfl
theorem q78_11000101110 : QR 78 g78 [0, 1, 1, 1, 0, 1, 0, 0, 0, 1, 1] 9 := qR rfl rfl
theorem q78_11000101111 : QR 78 g78 [1, 1, 1, 1, 0, 1, 0, 0, 0, 1, 1] 7 := qR rfl rfl
theorem q78_111 : QS 78 g78 [1, 1, 1] := qS rfl
theorem q78_1110 : QR 78 g78 [0, 1, 1, 1] 2 := qR rfl rfl
theorem q78_1111 : QT 78 g78 [1, 1, 1, 1] := qT rfl
theorem q79_ : QS 79 g79 [] := qS rfl
theorem q79_0 : QR 79 g79 [0] 1 := qR rfl rfl
theorem q79_1 : QS 79 g79 [1] := qS rfl
theorem q79_10 : QB 79 g79 [0, 1] 0 := qB rfl
theorem q79_100 : QS 79 g79 [0, 0, 1] := qS rfl
theorem q79_1000 : QR 79 g79 [0, 0, 0, 1] 3 := qR rfl rfl
theorem q79_1001 : QC 79 g79 [1, 0, 0, 1] 3 := qC rfl
theorem q79_10010 : QS 79 g79 [0, 1, 0, 0, 1] := qS rfl
theorem q79_100100 : QR 79 g79 [0, 0, 1, 0, 0, 1] 3 := qR rfl rfl
theorem q79_100101 : QT 79 g79 [1, 0, 1, 0, 0, 1] := qT rfl
theorem q79_10011 : QS 79 g79 [1, 1, 0, 0, 1] := qS rfl
theorem q79_100110 : QR 79 g79 [0, 1, 1, 0, 0, 1] 3 := qR rfl rfl
theorem q79_100111 : QC 79 g79 [1, 1, 1, 0, 0, 1] 8 := qC rfl
theorem q79_1001110 : QS 79 g79 [0, 1, 1, 1, 0, 0, 1] := qS rfl
theorem q79_10011100 : QR 79 g79 [0, 0, 1, 1, 1, 0, 0, 1] 3 := qR rfl rfl
theorem q79_10011101 : QT 79 g79 [1, 0, 1, 1, 1, 0, 0, 1] := qT rfl
theorem q79_1001111 : QS 79 g79 [1, 1, 1, 1, 0, 0, 1] := qS rfl
theorem q79_10011110 : QR 79 g79 [0, 1, 1, 1, 1, 0, 0, 1] 3 := qR rfl rfl
theorem q79_10011111 : QC 79 g79 [1, 1, 1, 1, 1, 0, 0, 1] 13 := qC rfl
theorem q79_100111110 : QS 79 g79 [0, 1, 1, 1, 1, 1, 0, 0, 1] := qS rfl
theorem q79_1001111100 : QR 79 g79 [0, 0, 1, 1, 1, 1, 1, 0, 0, 1] 3 := qR rfl rfl
theorem q79_1001111101 : QT 79 g79 [1, 0, 1, 1, 1, 1, 1, 0, 0, 1] := qT rfl
theorem q79_100111111 : QS 79 g79 [1, 1, 1, 1, 1, 1, 0, 0, 1] := qS rfl
theorem q79_1001111110 : QR 79 g79 [0, 1, 1, 1, 1, 1, 1, 0, 0, 1] 3 := qR rfl rfl
theorem q79_1001111111 : QC 79 g79 [1, 1, 1, 1, 1, 1, 1, 0, 0, 1] 18 := qC rfl
theorem q79_10011111110 : QS 79 g79 [0, 1, 1, 1, 1, 1, 1, 1, 0, 0, 1] := qS rfl
theorem q79_100111111100 : QR 79 g79 [0, 0, 1, 1, 1, 1, 1, 1, 1, 0, 0, 1] 3 := qR rfl rfl
theorem q79_100111111101 : QT 79 g79 [1, 0, 1, 1, 1, 1, 1, 1, 1, 0, 0, 1] := qT rfl
theorem q79_10011111111 : QS 79 g79 [1, 1, 1, 1, 1, 1, 1, 1, 0, 0, 1] := qS rfl
theorem q79_100111111110 : QR 79 g79 [0, 1, 1, 1, 1, 1, 1, 1, 1, 0, 0, 1] 3 := qR rfl rfl
theorem q79_100111111111 : QC 79 g79 [1, 1, 1, 1, 1, 1, 1, 1, 1, 0, 0, 1] 23 := qC rfl
theorem q79_1001111111110 : QS 79 g79 [0, 1, 1, 1, 1, 1, 1, 1, 1, 1, 0, 0, 1] := qS rfl
theorem q79_10011111111100 : QR 79 g79 [0, 0, 1, 1, 1, 1, 1, 1, 1, 1, 1, 0, 0, 1] 3 := qR rfl rfl
theorem q79_10011111111101 : QT 79 g79 [1, 0, 1, 1, 1, 1, 1, 1, 1, 1, 1, 0, 0, 1] := qT rfl
theorem q79_1001111111111 : QK 79 g79 [1, 1, 1, 1, 1, 1, 1, 1, 1, 1, 0, 0, 1] := qK rfl
theorem q79_11 : QS 79 g79 [1, 1] := qS rfl
theorem q79_110 : QR 79 g79 [0, 1, 1] 3 := qR rfl rfl
theorem q79_111 : QT 79 g79 [1, 1, 1] := qT rfl
theorem q81_ : QS 81 g81 [] := qS rfl
theorem q81_0 : QR 81 g81 [0] 1 := qR rfl rfl
theorem q81_1 : QS 81 g81 [1] := qS rfl
theorem q81_10 : QS 81 g81 [0, 1] := qS rfl
theorem q81_100 : QD 81 g81 [0, 0, 1] 16 := qD rfl rfl
theorem q81_101 : QC 81 g81 [1, 0, 1] 20 := qC rfl
theorem q81_1010 : QS 81 g81 [0, 1, 0, 1] := qS rfl
theorem q81_10100 : QR 81 g81 [0, 0, 1, 0, 1] 4 := qR rfl rfl
theorem q81_10101 : QS 81 g81 [1, 0, 1, 0, 1] := qS rfl
theorem q81_101010 : QR 81 g81 [0, 1, 0, 1, 0, 1] 1 := qR rfl rfl
theorem q81_101011 : QT 81 g81 [1, 1, 0, 1, 0, 1] := qT rfl
theorem q81_1011 : QK 81 g81 [1, 1, 0, 1] := qK rfl
theorem q81_11 : QS 81 g81 [1, 1] := qS rfl
theorem q81_110 : QD 81 g81 [0, 1, 1] 10 := qD rfl rfl
theorem q81_111 : QS 81 g81 [1, 1, 1] := qS rfl
theorem q81_1110 : QS 81 g81 [0, 1, 1, 1] := qS rfl
theorem q81_11100 : QR 81 g81 [0, 0, 1, 1, 1] 1 := qR rfl rfl
theorem q81_11101 : QB 81 g81 [1, 0, 1, 1, 1] 0 := qB rfl
theorem q81_111010 : QS 81 g81 [0, 1, 0, 1, 1, 1] := qS rfl
theorem q81_1110100 : QR 81 g81 [0, 0, 1, 0, 1, 1, 1] 2 := qR rfl rfl
theorem q81_1110101 : QC 81 g81 [1, 0, 1, 0, 1, 1, 1] 39 := qC rfl
theorem q81_11101010 : QS 81 g81 [0, 1, 0, 1, 0, 1, 1, 1] := qS rfl
theorem q81_111010100 : QR 81 g81 [0, 0, 1, 0, 1, 0, 1, 1, 1] 9 := qR rfl rfl
theorem q81_111010101 : QS 81 g81 [1, 0, 1, 0, 1, 0, 1, 1, 1] := qS rfl
theorem q81_1110101010 : QR 81 g81 [0, 1, 0, 1, 0, 1, 0, 1, 1, 1] 4 := qR rfl rfl
theorem q81_1110101011 : QT 81 g81 [1, 1, 0, 1, 0, 1, 0, 1, 1, 1] := qT rfl
theorem q81_11101011 : QS 81 g81 [1, 1, 0, 1, 0, 1, 1, 1] := qS rfl
theorem q81_111010110 : QR 81 g81 [0, 1, 1, 0, 1, 0, 1, 1, 1] 2 := qR rfl rfl
theorem q81_111010111 : QC 81 g81 [1, 1, 1, 0, 1, 0, 1, 1, 1] 52 := qC rfl
theorem q81_1110101110 : QS 81 g81 [0, 1, 1, 1, 0, 1, 0, 1, 1, 1] := qS rfl
theorem q81_11101011100 : QR 81 g81 [0, 0, 1, 1, 1, 0, 1, 0, 1, 1, 1] 9 := qR rfl rfl
theorem q81_11101011101 : QS 81 g81 [1, 0, 1, 1, 1, 0, 1, 0, 1, 1, 1] := qS rfl
theorem q81_111010111010 : QR 81 g81 [0, 1, 0, 1, 1, 1, 0, 1, 0, 1, 1, 1] 4 := qR rfl rfl
theorem q81_111010111011 : QT 81 g81 [1, 1, 0, 1, 1, 1, 0, 1, 0, 1, 1, 1] := qT rfl
theorem q81_1110101111 : QS 81 g81 [1, 1, 1, 1, 0, 1, 0, 1, 1, 1] := qS rfl
theorem q81_11101011110 : QR 81 g81 [0, 1, 1, 1, 1, 0, 1, 0, 1, 1, 1] 2 := qR rfl rfl
theorem q81_11101011111 : QC 81 g81 [1, 1, 1, 1, 1, 0, 1, 0, 1, 1, 1] 65 := qC rfl
theorem q81_111010111110 : QS 81 g81 [0, 1, 1, 1, 1, 1, 0, 1, 0, 1, 1, 1] := qS rfl
theorem q81_1110101111100 : QR 81 g81 [0, 0, 1, 1, 1, 1, 1, 0, 1, 0, 1, 1, 1] 9 := qR rfl rfl
theorem q81_1110101111101 : QS 81 g81 [1, 0, 1, 1, 1, 1, 1, 0, 1, 0, 1, 1, 1] := qS rfl
theorem q81_11101011111010 : QR 81 g81 [0, 1, 0, 1, 1, 1, 1, 1, 0, 1, 0, 1, 1, 1] 4 := qR rfl rfl
theorem q81_11101011111011 : QT 81 g81 [1, 1, 0, 1, 1, 1, 1, 1, 0, 1, 0, 1, 1, 1] := qT rfl
theorem q81_111010111111 : QS 81 g81 [1, 1, 1, 1, 1, 1, 0, 1, 0, 1, 1, 1] := qS rfl
theorem q81_1110101111110 : QR 81 g81 [0, 1, 1, 1, 1, 1, 1, 0, 1, 0, 1, 1, 1] 2 := qR rfl rfl
theorem q81_1110101111111 : QC 81 g81 [1, 1, 1, 1, 1, 1, 1, 0, 1, 0, 1, 1, 1] 78 := qC rfl
theorem q81_11101011111110 : QS 81 g81 [0, 1, 1, 1, 1, 1, 1, 1, 0, 1, 0, 1, 1, 1] := qS rfl
theorem q81_111010111111100 : QR 81 g81 [0, 0, 1, 1, 1, 1, 1, 1, 1, 0, 1, 0, 1, 1, 1] 3 := qR rfl rfl
theorem q81_111010111111101 : QT 81 g81 [1, 0, 1, 1, 1, 1, 1, 1, 1, 0, 1, 0, 1, 1, 1] := qT rfl
theorem q81_11101011111111 : QS 81 g81 [1, 1, 1, 1, 1, 1, 1, 1, 0, 1, 0, 1, 1, 1] := qS rfl
theorem q81_111010111111110 : QR 81 g81 [0, 1, 1, 1, 1, 1, 1, 1, 1, 0, 1, 0, 1, 1, 1] 2 := qR rfl rfl
theorem q81_111010111111111 : QC 81 g81 [1, 1, 1, 1, 1, 1, 1, 1, 1, 0, 1, 0, 1, 1, 1] 82 := qC rfl
theorem q81_1110101111111110 : QS 81 g81 [0, 1, 1, 1, 1, 1, 1, 1, 1, 1, 0, 1, 0, 1, 1, 1] := qS rfl
theorem q81_11101011111111100 : QR 81 g81 [0, 0, 1, 1, 1, 1, 1, 1, 1, 1, 1, 0, 1, 0, 1, 1, 1] 9 := qR rfl rfl
theorem q81_11101011111111101 : QS 81 g81 [1, 0, 1, 1, 1, 1, 1, 1, 1, 1, 1, 0, 1, 0, 1, 1, 1] := qS rfl
theorem q81_111010111111111010 : QR 81 g81 [0, 1, 0, 1, 1, 1, 1, 1, 1, 1, 1, 1, 0, 1, 0, 1, 1, 1] 3 := qR rfl rfl
theorem q81_111010111111111011 : QS 81 g81 [1, 1, 0, 1, 1, 1, 1, 1, 1, 1, 1, 1, 0, 1, 0, 1, 1, 1] := qS rfl
theorem q81_1110101111111110110 : QS 81 g81 [0, 1, 1, 0, 1, 1, 1, 1, 1, 1, 1, 1, 1, 0, 1, 0, 1, 1, 1] := qS rfl
theorem q81_11101011111111101100 : QR 81 g81 [0, 0, 1, 1, 0, 1, 1, 1, 1, 1, 1, 1, 1, 1, 0, 1, 0, 1, 1, 1] 3 := qR rfl rfl
theorem q81_11101011111111101101 : QC 81 g81 [1, 0, 1, 1, 0, 1, 1, 1, 1, 1, 1, 1, 1, 1, 0, 1, 0, 1, 1, 1] 96 := qC rfl
theorem q81_111010111111111011010 : QS 81 g81 [0, 1, 0, 1, 1, 0, 1, 1, 1, 1, 1, 1, 1, 1, 1, 0, 1, 0, 1, 1, 1] := qS rfl
theorem q81_1110101111111110110100 : QR 81 g81 [0, 0, 1, 0, 1, 1, 0, 1, 1, 1, 1, 1, 1, 1, 1, 1, 0, 1, 0, 1, 1, 1] 4 := qR rfl rfl
theorem q81_1110101111111110110101 : QS 81 g81 [1, 0, 1, 0, 1, 1, 0, 1, 1, 1, 1, 1, 1, 1, 1, 1, 0, 1, 0, 1, 1, 1] := qS rfl
theorem q81_11101011111111101101010 : QR 81 g81 [0, 1, 0, 1, 0, 1, 1, 0, 1, 1, 1, 1, 1, 1, 1, 1, 1, 0, 1, 0, 1, 1, 1] 1 := qR rfl rfl
theorem q81_11101011111111101101011 : QT 81 g81 [1, 1, 0, 1, 0, 1, 1, 0, 1, 1, 1, 1, 1, 1, 1, 1, 1, 0, 1, 0, 1, 1, 1] := qT rfl
theorem q81_111010111111111011011 : QK 81 g81 [1, 1, 0, 1, 1, 0, 1, 1, 1, 1, 1, 1, 1, 1, 1, 0, 1, 0, 1, 1, 1] := qK rfl
theorem q81_1110101111111110111 : QS 81 g81 [1, 1, 1, 0, 1, 1, 1, 1, 1, 1, 1, 1, 1, 0, 1, 0, 1, 1, 1] := qS rfl
theorem q81_11101011111111101110 : QR 81 g81 [0, 1, 1, 1, 0, 1, 1, 1, 1, 1, 1, 1, 1, 1, 0, 1, 0, 1, 1, 1] 9 := qR rfl rfl
theorem q81_11101011111111101111 : QS 81 g81 [1, 1, 1, 1, 0, 1, 1, 1, 1, 1, 1, 1, 1, 1, 0, 1, 0, 1, 1, 1] := qS rfl
theorem q81_111010111111111011110 : QR 81 g81 [0, 1, 1, 1, 1, 0, 1, 1, 1, 1, 1, 1, 1, 1, 1, 0, 1, 0, 1, 1, 1] 2 := qR rfl rfl
theorem q81_111010111111111011111 : QT 81 g81 [1, 1, 1, 1, 1, 0, 1, 1, 1, 1, 1, 1, 1, 1, 1, 0, 1, 0, 1, 1, 1] := qT rfl
theorem q81_1110101111111111 : QS 81 g81 [1, 1, 1, 1, 1, 1, 1, 1, 1, 1, 0, 1, 0, 1, 1, 1] := qS rfl
theorem q81_11101011111111110 : QR 81 g81 [0, 1, 1, 1, 1, 1, 1, 1, 1, 1, 1, 0, 1, 0, 1, 1, 1] 2 := qR rfl rfl
theorem q81_11101011111111111 : QC 81 g81 [1, 1, 1, 1, 1, 1, 1, 1, 1, 1, 1, 0, 1, 0, 1, 1, 1] 109 := qC rfl
theorem q81_111010111111111110 : QS 81 g81 [0, 1, 1, 1, 1, 1, 1, 1, 1, 1, 1, 1, 0, 1, 0, 1, 1, 1] := qS rfl
theorem q81_1110101111111111100 : QR 81 g81 [0, 0, 1, 1, 1, 1, 1, 1, 1, 1, 1, 1, 1, 0, 1, 0, 1, 1, 1] 9 := qR rfl rfl
theorem q81_1110101111111111101 : QS 81 g81 [1, 0, 1, 1, 1, 1, 1, 1, 1, 1, 1, 1, 1, 0, 1, 0, 1, 1, 1] := qS rfl
theorem q81_11101011111111111010 : QS 81 g81 [0, 1, 0, 1, 1, 1, 1, 1, 1, 1, 1, 1, 1, 1, 0, 1, 0, 1, 1, 1] := qS rfl
theorem q81_111010111111111110100 : QD 81 g81 [0, 0, 1, 0, 1, 1, 1, 1, 1, 1, 1, 1, 1, 1, 1, 0, 1, 0, 1, 1, 1] 23 := qD rfl rfl
theorem q81_111010111111111110101 : QC 81 g81 [1, 0, 1, 0, 1, 1, 1, 1, 1, 1, 1, 1, 1, 1, 1, 0, 1, 0, 1, 1, 1] 141 := qC rfl
theorem q81_1110101111111111101010 : QS 81 g81 [0, 1, 0, 1, 0, 1, 1, 1, 1, 1, 1, 1, 1, 1, 1, 1, 0, 1, 0, 1, 1, 1] := qS rfl
theorem q81_11101011111111111010100 : QR 81 g81 [0, 0, 1, 0, 1, 0, 1, 1, 1, 1, 1, 1, 1, 1, 1, 1, 1, 0, 1, 0, 1, 1, 1] 4 := qR rfl rfl
theorem q81_11101011111111111010101 : QS 81 g81 [1, 0, 1, 0, 1, 0, 1, 1, 1, 1, 1, 1, 1, 1, 1, 1, 1, 0, 1, 0, 1, 1, 1] := qS rfl
theorem q81_111010111111111110101010 : QR 81 g81 [0, 1, 0, 1, 0, 1, 0, 1, 1, 1, 1, 1, 1, 1, 1, 1, 1, 1, 0, 1, 0, 1, 1, 1] 1 := qR rfl rfl
theorem q81_111010111111111110101011 : QT 81 g81 [1, 1, 0, 1, 0, 1, 0, 1, 1, 1, 1, 1, 1, 1, 1, 1, 1, 1, 0, 1, 0, 1, 1, 1] := qT rfl
theorem q81_1110101111111111101011 : QK 81 g81 [1, 1, 0, 1, 0, 1, 1, 1, 1, 1, 1, 1, 1, 1, 1, 1, 0, 1, 0, 1, 1, 1] := qK rfl
theorem q81_11101011111111111011 : QD 81 g81 [1, 1, 0, 1, 1, 1, 1, 1, 1, 1, 1, 1, 1, 1, 0, 1, 0, 1, 1, 1] 10 := qD rfl rfl
theorem q81_111010111111111111 : QS 81 g81 [1, 1, 1, 1, 1, 1, 1, 1, 1, 1, 1, 1, 0, 1, 0, 1, 1, 1] := qS rfl
theorem q81_1110101111111111110 : QR 81 g81 [0, 1, 1, 1, 1, 1, 1, 1, 1, 1, 1, 1, 1, 0, 1, 0, 1, 1, 1] 2 := qR rfl rfl
theorem q81_1110101111111111111 : QC 81 g81 [1, 1, 1, 1, 1, 1, 1, 1, 1, 1, 1, 1, 1, 0, 1, 0, 1, 1, 1] 35 := qC rfl
theorem q81_11101011111111111110 : QS 81 g81 [0, 1, 1, 1, 1, 1, 1, 1, 1, 1, 1, 1, 1, 1, 0, 1, 0, 1, 1, 1] := qS rfl
theorem q81_111010111111111111100 : QR 81 g81 [0, 0, 1, 1, 1, 1, 1, 1, 1, 1, 1, 1, 1, 1, 1, 0, 1, 0, 1, 1, 1] 4 := qR rfl rfl
theorem q81_111010111111111111101 : QS 81 g81 [1, 0, 1, 1, 1, 1, 1, 1, 1, 1, 1, 1, 1, 1, 1, 0, 1, 0, 1, 1, 1] := qS rfl
theorem q81_1110101111111111111010 : QR 81 g81 [0, 1, 0, 1, 1, 1, 1, 1, 1, 1, 1, 1, 1, 1, 1, 1, 0, 1, 0, 1, 1, 1] 1 := qR rfl rfl
theorem q81_1110101111111111111011 : QT 81 g81 [1, 1, 0, 1, 1, 1, 1, 1, 1, 1, 1, 1, 1, 1, 1, 1, 0, 1, 0, 1, 1, 1] := qT rfl
theorem q81_11101011111111111111 : QK 81 g81 [1, 1, 1, 1, 1, 1, 1, 1, 1, 1, 1, 1, 1, 1, 0, 1, 0, 1, 1, 1] := qK rfl
theorem q81_1111 : QS 81 g81 [1, 1, 1, 1] := qS rfl
theorem q81_11110 : QR 81 g81 [0, 1, 1, 1, 1] 9 := qR rfl rfl
theorem q81_11111 : QS 81 g81 [1, 1, 1, 1, 1] := qS rfl
theorem q81_111110 : QR 81 g81 [0, 1, 1, 1, 1, 1] 7 := qR rfl rfl
theorem q81_111111 : QT 81 g81 [1, 1, 1, 1, 1, 1] := qT rfl
theorem q82_ : QS 82 g82 [] := qS rfl
theorem q82_0 : QR 82 g82 [0] 1 := qR rfl rfl
theorem q82_1 : QS 82 g82 [1] := qS rfl
theorem q82_10 : QR 82 g82 [0, 1] 1 := qR rfl rfl
theorem q82_11 : QS 82 g82 [1, 1] := qS rfl
theorem q82_110 : QR 82 g82 [0, 1, 1] 3 := qR rfl rfl
theorem q82_111 : QS 82 g82 [1, 1, 1] := qS rfl
theorem q82_1110 : QS 82 g82 [0, 1, 1, 1] := qS rfl
theorem q82_11100 : QR 82 g82 [0, 0, 1, 1, 1] 1 := qR rfl rfl
theorem q82_11101 : QC 82 g82 [1, 0, 1, 1, 1] 10 := qC rfl
theorem q82_111010 : QR 82 g82 [0, 1, 0, 1, 1, 1] 1 := qR rfl rfl
theorem q82_111011 : QK 82 g82 [1, 1, 0, 1, 1, 1] := qK rfl
theorem q82_1111 : QS 82 g82 [1, 1, 1, 1] := qS rfl
theorem q82_11110 : QR 82 g82 [0, 1, 1, 1, 1] 12 := qR rfl rfl
theorem q82_11111 : QS 82 g82 [1, 1, 1, 1, 1] := qS rfl
theorem q82_111110 : QS 82 g82 [0, 1, 1, 1, 1, 1] := qS rfl
theorem q82_1111100 : QR 82 g82 [0, 0, 1, 1, 1, 1, 1] 6 := qR rfl rfl
theorem q82_1111101 : QC 82 g82 [1, 0, 1, 1, 1, 1, 1] 25 := qC rfl
theorem q82_11111010 : QS 82 g82 [0, 1, 0, 1, 1, 1, 1, 1] := qS rfl
theorem q82_111110100 : QR 82 g82 [0, 0, 1, 0, 1, 1, 1, 1, 1] 4 := qR rfl rfl
theorem q82_111110101 : QS 82 g82 [1, 0, 1, 0, 1, 1, 1, 1, 1] := qS rfl
theorem q82_1111101010 : QR 82 g82 [0, 1, 0, 1, 0, 1, 1, 1, 1, 1] 1 := qR rfl rfl
theorem q82_1111101011 : QT 82 g82 [1, 1, 0, 1, 0, 1, 1, 1, 1, 1] := qT rfl
theorem q82_11111011 : QK 82 g82 [1, 1, 0, 1, 1, 1, 1, 1] := qK rfl
theorem q82_111111 : QS 82 g82 [1, 1, 1, 1, 1, 1] := qS rfl
theorem q82_1111110 : QR 82 g82 [0, 1, 1, 1, 1, 1, 1] 5 := qR rfl rfl
theorem q82_1111111 : QS 82 g82 [1, 1, 1, 1, 1, 1, 1] := qS rfl
theorem q82_11111110 : QR 82 g82 [0, 1, 1, 1, 1, 1, 1, 1] 5 := qR rfl rfl
theorem q82_11111111 : QT 82 g82 [1, 1, 1, 1, 1, 1, 1, 1] := qT rfl
theorem q83_ : QS 83 g83 [] := qS rfl
theorem q83_0 : QR 83 g83 [0] 1 := qR rfl rfl
theorem q83_1 : QS 83 g83 [1] := qS rfl
theorem q83_10 : QR 83 g83 [0, 1] 3 := qR rfl rfl
theorem q83_11 : QS 83 g83 [1, 1] := qS rfl
theorem q83_110 : QS 83 g83 [0, 1, 1] := qS rfl
theorem q83_1100 : QR 83 g83 [0, 0, 1, 1] 3 := qR rfl rfl
theorem q83_1101 : QC 83 g83 [1, 0, 1, 1] 8 := qC rfl
theorem q83_11010 : QR 83 g83 [0, 1, 0, 1, 1] 4 := qR rfl rfl
theorem q83_11011 : QK 83 g83 [1, 1, 0, 1, 1] := qK rfl
theorem q83_111 : QS 83 g83 [1, 1, 1] := qS rfl
theorem q83_1110 : QR 83 g83 [0, 1, 1, 1] 2 := qR rfl rfl
theorem q83_1111 : QT 83 g83 [1, 1, 1, 1] := qT rfl
theorem q84_ : QS 84 g84 [] := qS rfl
theorem q84_0 : QR 84 g84 [0] 1 := qR rfl rfl
theorem q84_1 : QS 84 g84 [1] := qS rfl
theorem q84_10 : QR 84 g84 [0, 1] 3 := qR rfl rfl
theorem q84_11 : QS 84 g84 [1, 1] := qS rfl
theorem q84_110 : QS 84 g84 [0, 1, 1] := qS rfl
theorem q84_1100 : QR 84 g84 [0, 0, 1, 1] 16 := qR rfl rfl
theorem q84_1101 : QC 84 g84 [1, 0, 1, 1] 22 := qC rfl
theorem q84_11010 : QS 84 g84 [0, 1, 0, 1, 1] := qS rfl
theorem q84_110100 : QR 84 g84 [0, 0, 1, 0, 1, 1] 4 := qR rfl rfl
theorem q84_110101 : QS 84 g84 [1, 0, 1, 0, 1, 1] := qS rfl
theorem q84_1101010 : QR 84 g84 [0, 1, 0, 1, 0, 1, 1] 1 := qR rfl rfl
theorem q84_1101011 : QT 84 g84 [1, 1, 0, 1, 0, 1, 1] := qT rfl
theorem q84_11011 : QK 84 g84 [1, 1, 0, 1, 1] := qK rfl
theorem q84_111 : QS 84 g84 [1, 1, 1] := qS rfl
theorem q84_1110 : QR 84 g84 [0, 1, 1, 1] 6 := qR rfl rfl
theorem q84_1111 : QS 84 g84 [1, 1, 1, 1] := qS rfl
theorem q84_11110 : QR 84 g84 [0, 1, 1, 1, 1] 9 := qR rfl rfl
theorem q84_11111 : QS 84 g84 [1, 1, 1, 1, 1] := qS rfl
theorem q84_111110 : QR 84 g84 [0, 1, 1, 1, 1, 1] 4 := qR rfl rfl
theorem q84_111111 : QT 84 g84 [1, 1, 1, 1, 1, 1] := qT rfl
theorem q86_ : QS 86 g86 [] := qS rfl
theorem q86_0 : QR 86 g86 [0] 1 := qR rfl rfl
theorem q86_1 : QS 86 g86 [1] := qS rfl
theorem q86_10 : QR 86 g86 [0, 1] 1 := qR rfl rfl
theorem q86_11 : QS 86 g86 [1, 1] := qS rfl
theorem q86_110 : QR 86 g86 [0, 1, 1] 9 := qR rfl rfl
theorem q86_111 : QS 86 g86 [1, 1, 1] := qS rfl
theorem q86_1110 : QS 86 g86 [0, 1, 1, 1] := qS rfl
theorem q86_11100 : QR 86 g86 [0, 0, 1, 1, 1] 2 := qR rfl rfl
theorem q86_11101 : QC 86 g86 [1, 0, 1, 1, 1] 15 := qC rfl
theorem q86_111010 : QS 86 g86 [0, 1, 0, 1, 1, 1] := qS rfl
theorem q86_1110100 : QR 86 g86 [0, 0, 1, 0, 1, 1, 1] 1 := qR rfl rfl
theorem q86_1110101 : QR 86 g86 [1, 0, 1, 0, 1, 1, 1] 9 := qR rfl rfl
theorem q86_111011 : QK 86 g86 [1, 1, 0, 1, 1, 1] := qK rfl
theorem q86_1111 : QS 86 g86 [1, 1, 1, 1] := qS rfl
theorem q86_11110 : QR 86 g86 [0, 1, 1, 1, 1] 5 := qR rfl rfl
theorem q86_11111 : QS 86 g86 [1, 1, 1, 1, 1] := qS rfl
theorem q86_111110 : QB 86 g86 [0, 1, 1, 1, 1, 1] 0 := qB rfl
theorem q86_1111100 : QL 86 g86 [0, 0, 1, 1, 1, 1, 1] 7 := qL rfl rfl
theorem q86_11111000 : QS 86 g86 [0, 0, 0, 1, 1, 1, 1, 1] := qS rfl
theorem q86_111110000 : QS 86 g86 [0, 0, 0, 0, 1, 1, 1, 1, 1] := qS rfl
theorem q86_1111100000 : QD 86 g86 [0, 0, 0, 0, 0, 1, 1, 1, 1, 1] 22 := qD rfl rfl
theorem q86_1111100001 : QC 86 g86 [1, 0, 0, 0, 0, 1, 1, 1, 1, 1] 49 := qC rfl
theorem q86_11111000010 : QK 86 g86 [0, 1, 0, 0, 0, 0, 1, 1, 1, 1, 1] := qK rfl
theorem q86_11111000011 : QX 86 g86 [1, 1, 0, 0, 0, 0, 1, 1, 1, 1, 1] 0 := qX rfl
theorem q86_111110001 : QB 86 g86 [1, 0, 0, 0, 1, 1, 1, 1, 1] 1 := qB rfl
theorem q86_1111100010 : QR 86 g86 [0, 1, 0, 0, 0, 1, 1, 1, 1, 1] 9 := qR rfl rfl
theorem q86_111111 : QS 86 g86 [1, 1, 1, 1, 1, 1] := qS rfl
theorem q86_1111110 : QS 86 g86 [0, 1, 1, 1, 1, 1, 1] := qS rfl
theorem q86_11111100 : QD 86 g86 [0, 0, 1, 1, 1, 1, 1, 1] 18 := qD rfl rfl
theorem q86_11111101 : QC 86 g86 [1, 0, 1, 1, 1, 1, 1, 1] 75 := qC rfl
theorem q86_111111010 : QS 86 g86 [0, 1, 0, 1, 1, 1, 1, 1, 1] := qS rfl
theorem q86_1111110100 : QR 86 g86 [0, 0, 1, 0, 1, 1, 1, 1, 1, 1] 4 := qR rfl rfl
theorem q86_1111110101 : QS 86 g86 [1, 0, 1, 0, 1, 1, 1, 1, 1, 1] := qS rfl
theorem q86_11111101010 : QR 86 g86 [0, 1, 0, 1, 0, 1, 1, 1, 1, 1, 1] 1 := qR rfl rfl
theorem q86_11111101011 : QT 86 g86 [1, 1, 0, 1, 0, 1, 1, 1, 1, 1, 1] := qT rfl
theorem q86_111111011 : QK 86 g86 [1, 1, 0, 1, 1, 1, 1, 1, 1] := qK rfl
theorem q86_1111111 : QS 86 g86 [1, 1, 1, 1, 1, 1, 1] := qS rfl
theorem q86_11111110 : QD 86 g86 [0, 1, 1, 1, 1, 1, 1, 1] 11 := qD rfl rfl
theorem q86_11111111 : QS 86 g86 [1, 1, 1, 1, 1, 1, 1, 1] := qS rfl
theorem q86_111111110 : QR 86 g86 [0, 1, 1, 1, 1, 1, 1, 1, 1] 9 := qR rfl rfl
theorem q86_111111111 : QS 86 g86 [1, 1, 1, 1, 1, 1, 1, 1, 1] := qS rfl
theorem q86_1111111110 : QR 86 g86 [0, 1, 1, 1, 1, 1, 1, 1, 1, 1] 6 := qR rfl rfl
theorem q86_1111111111 : QT 86 g86 [1, 1, 1, 1, 1, 1, 1, 1, 1, 1] := qT rfl
theorem q87_ : QS 87 g87 [] := qS rfl
theorem q87_0 : QR 87 g87 [0] 1 := qR rfl rfl
theorem q87_1 : QS 87 g87 [1] := qS rfl
theorem q87_10 : QR 87 g87 [0, 1] 1 := qR rfl rfl
theorem q87_11 : QS 87 g87 [1, 1] := qS rfl
theorem q87_110 : QS 87 g87 [0, 1, 1] := qS rfl
theorem q87_1100 : QR 87 g87 [0, 0, 1, 1] 1 := qR rfl rfl
theorem q87_1101 : QB 87 g87 [1, 0, 1, 1] 0 := qB rfl
theorem q87_11010 : QL 87 g87 [0, 1, 0, 1, 1] 3 := qL rfl rfl
theorem q87_110100 : QS 87 g87 [0, 0, 1, 0, 1, 1] := qS rfl
theorem q87_1101000 : QS 87 g87 [0, 0, 0, 1, 0, 1, 1] := qS rfl
theorem q87_11010000 : QR 87 g87 [0, 0, 0, 0, 1, 0, 1, 1] 4 := qR rfl rfl
theorem q87_11010001 : QC 87 g87 [1, 0, 0, 0, 1, 0, 1, 1] 8 := qC rfl
theorem q87_110100010 : QK 87 g87 [0, 1, 0, 0, 0, 1, 0, 1, 1] := qK rfl
theorem q87_110100011 : QX 87 g87 [1, 1, 0, 0, 0, 1, 0, 1, 1] 0 := qX rfl
theorem q87_1101001 : QS 87 g87 [1, 0, 0, 1, 0, 1, 1] := qS rfl
theorem q87_11010010 : QB 87 g87 [0, 1, 0, 0, 1, 0, 1, 1] 1 := qB rfl
theorem q87_110100100 : QS 87 g87 [0, 0, 1, 0, 0, 1, 0, 1, 1] := qS rfl
theorem q87_1101001000 : QR 87 g87 [0, 0, 0, 1, 0, 0, 1, 0, 1, 1] 5 := qR rfl rfl
theorem q87_1101001001 : QC 87 g87 [1, 0, 0, 1, 0, 0, 1, 0, 1, 1] 15 := qC rfl
theorem q87_11010010010 : QS 87 g87 [0, 1, 0, 0, 1, 0, 0, 1, 0, 1, 1] := qS rfl
theorem q87_110100100100 : QR 87 g87 [0, 0, 1, 0, 0, 1, 0, 0, 1, 0, 1, 1] 1 := qR rfl rfl
theorem q87_110100100101 : QT 87 g87 [1, 0, 1, 0, 0, 1, 0, 0, 1, 0, 1, 1] := qT rfl
theorem q87_11010010011 : QK 87 g87 [1, 1, 0, 0, 1, 0, 0, 1, 0, 1, 1] := qK rfl
theorem q87_11010011 : QR 87 g87 [1, 1, 0, 0, 1, 0, 1, 1] 3 := qR rfl rfl
theorem q87_111 : QS 87 g87 [1, 1, 1] := qS rfl
theorem q87_1110 : QR 87 g87 [0, 1, 1, 1] 1 := qR rfl rfl
theorem q87_1111 : QT 87 g87 [1, 1, 1, 1] := qT rfl
theorem q88_ : QS 88 g88 [] := qS rfl
theorem q88_0 : QR 88 g88 [0] 3 := qR rfl rfl
theorem q88_1 : QS 88 g88 [1] := qS rfl
theorem q88_10 : QR 88 g88 [0, 1] 9 := qR rfl rfl
theorem q88_11 : QT 88 g88 [1, 1] := qT rfl
theorem q89_ : QS 89 g89 [] := qS rfl
theorem q89_0 : QR 89 g89 [0] 3 := qR rfl rfl
theorem q89_1 : QS 89 g89 [1] := qS rfl
theorem q89_10 : QS 89 g89 [0, 1] := qS rfl
theorem q89_100 : QR 89 g89 [0, 0, 1] 4 := qR rfl rfl
theorem q89_101 : QS 89 g89 [1, 0, 1] := qS rfl
theorem q89_1010 : QR 89 g89 [0, 1, 0, 1] 2 := qR rfl rfl
theorem q89_1011 : QC 89 g89 [1, 1, 0, 1] 12 := qC rfl
theorem q89_10110 : QS 89 g89 [0, 1, 1, 0, 1] := qS rfl
theorem q89_101100 : QD 89 g89 [0, 0, 1, 1, 0, 1] 12 := qD rfl rfl
theorem q89_101101 : QT 89 g89 [1, 0, 1, 1, 0, 1] := qT rfl
theorem q89_10111 : QK 89 g89 [1, 1, 1, 0, 1] := qK rfl
theorem q89_11 : QS 89 g89 [1, 1] := qS rfl
theorem q89_110 : QR 89 g89 [0, 1, 1] 4 := qR rfl rfl
theorem q89_111 : QT 89 g89 [1, 1, 1] := qT rfl
theorem q90_ : QS 90 g90 [] := qS rfl
theorem q90_0 : QR 90 g90 [0] 1 := qR rfl rfl
theorem q90_1 : QS 90 g90 [1] := qS rfl
theorem q90_10 : QR 90 g90 [0, 1] 3 := qR rfl rfl
theorem q90_11 : QS 90 g90 [1, 1] := qS rfl
theorem q90_110 : QB 90 g90 [0, 1, 1] 0 := qB rfl
theorem q90_1100 : QS 90 g90 [0, 0, 1, 1] := qS rfl
theorem q90_11000 : QR 90 g90 [0, 0, 0, 1, 1] 8 := qR rfl rfl
theorem q90_11001 : QC 90 g90 [1, 0, 0, 1, 1] 16 := qC rfl
theorem q90_110010 : QS 90 g90 [0, 1, 0, 0, 1, 1] := qS rfl
theorem q90_1100100 : QR 90 g90 [0, 0, 1, 0, 0, 1, 1] 1 := qR rfl rfl
theorem q90_1100101 : QT 90 g90 [1, 0, 1, 0, 0, 1, 1] := qT rfl
theorem q90_110011 : QS 90 g90 [1, 1, 0, 0, 1, 1] := qS rfl
theorem q90_1100110 : QR 90 g90 [0, 1, 1, 0, 0, 1, 1] 3 := qR rfl rfl
theorem q90_1100111 : QC 90 g90 [1, 1, 1, 0, 0, 1, 1] 24 := qC rfl
theorem q90_11001110 : QS 90 g90 [0, 1, 1, 1, 0, 0, 1, 1] := qS rfl
theorem q90_110011100 : QR 90 g90 [0, 0, 1, 1, 1, 0, 0, 1, 1] 5 := qR rfl rfl
theorem q90_110011101 : QT 90 g90 [1, 0, 1, 1, 1, 0, 0, 1, 1] := qT rfl
theorem q90_11001111 : QS 90 g90 [1, 1, 1, 1, 0, 0, 1, 1] := qS rfl
theorem q90_110011110 : QR 90 g90 [0, 1, 1, 1, 1, 0, 0, 1, 1] 5 := qR rfl rfl
theorem q90_110011111 : QC 90 g90 [1, 1, 1, 1, 1, 0, 0, 1, 1] 31 := qC rfl
theorem q90_1100111110 : QS 90 g90 [0, 1, 1, 1, 1, 1, 0, 0, 1, 1] := qS rfl
theorem q90_11001111100 : QR 90 g90 [0, 0, 1, 1, 1, 1, 1, 0, 0, 1, 1] 1 := qR rfl rfl
theorem q90_11001111101 : QT 90 g90 [1, 0, 1, 1, 1, 1, 1, 0, 0, 1, 1] := qT rfl
theorem q90_1100111111 : QS 90 g90 [1, 1, 1, 1, 1, 1, 0, 0, 1, 1] := qS rfl
theorem q90_11001111110 : QR 90 g90 [0, 1, 1, 1, 1, 1, 1, 0, 0, 1, 1] 9 := qR rfl rfl
theorem q90_11001111111 : QC 90 g90 [1, 1, 1, 1, 1, 1, 1, 0, 0, 1, 1] 36 := qC rfl
theorem q90_110011111110 : QS 90 g90 [0, 1, 1, 1, 1, 1, 1, 1, 0, 0, 1, 1] := qS rfl
theorem q90_1100111111100 : QR 90 g90 [0, 0, 1, 1, 1, 1, 1, 1, 1, 0, 0, 1, 1] 4 := qR rfl rfl
theorem q90_1100111111101 : QT 90 g90 [1, 0, 1, 1, 1, 1, 1, 1, 1, 0, 0, 1, 1] := qT rfl
theorem q90_110011111111 : QK 90 g90 [1, 1, 1, 1, 1, 1, 1, 1, 0, 0, 1, 1] := qK rfl
theorem q90_111 : QS 90 g90 [1, 1, 1] := qS rfl
theorem q90_1110 : QR 90 g90 [0, 1, 1, 1] 3 := qR rfl rfl
theorem q90_1111 : QS 90 g90 [1, 1, 1, 1] := qS rfl
theorem q90_11110 : QR 90 g90 [0, 1, 1, 1, 1] 3 := qR rfl rfl
theorem q90_11111 : QS 90 g90 [1, 1, 1, 1, 1] := qS rfl
theorem q90_111110 : QR 90 g90 [0, 1, 1, 1, 1, 1] 1 := qR rfl rfl
theorem q90_111111 : QS 90 g90 [1, 1, 1, 1, 1, 1] := qS rfl
theorem q90_1111110 : QR 90 g90 [0, 1, 1, 1, 1, 1, 1] 6 := qR rfl rfl
theorem q90_1111111 : QS 90 g90 [1, 1, 1, 1, 1, 1, 1] := qS rfl
theorem q90_11111110 : QR 90 g90 [0, 1, 1, 1, 1, 1, 1, 1] 1 := qR rfl rfl
theorem q90_11111111 : QS 90 g90 [1, 1, 1, 1, 1, 1, 1, 1] := qS rfl
theorem q90_111111110 : QB 90 g90 [0, 1, 1, 1, 1, 1, 1, 1, 1] 1 := qB rfl
theorem q90_1111111100 : QL 90 g90 [0, 0, 1, 1, 1, 1, 1, 1, 1, 1] 15 := qL rfl rfl
theorem q90_11111111000 : QS 90 g90 [0, 0, 0, 1, 1, 1, 1, 1, 1, 1, 1] := qS rfl
theorem q90_111111110000 : QS 90 g90 [0, 0, 0, 0, 1, 1, 1, 1, 1, 1, 1, 1] := qS rfl
theorem q90_1111111100000 : QR 90 g90 [0, 0, 0, 0, 0, 1, 1, 1, 1, 1, 1, 1, 1] 3 := qR rfl rfl
theorem q90_1111111100001 : QC 90 g90 [1, 0, 0, 0, 0, 1, 1, 1, 1, 1, 1, 1, 1] 59 := qC rfl
theorem q90_11111111000010 : QK 90 g90 [0, 1, 0, 0, 0, 0, 1, 1, 1, 1, 1, 1, 1, 1] := qK rfl
theorem q90_11111111000011 : QX 90 g90 [1, 1, 0, 0, 0, 0, 1, 1, 1, 1, 1, 1, 1, 1] 1 := qX rfl
theorem q90_111111110001 : QB 90 g90 [1, 0, 0, 0, 1, 1, 1, 1, 1, 1, 1, 1] 2 := qB rfl
theorem q90_1111111100010 : QS 90 g90 [0, 1, 0, 0, 0, 1, 1, 1, 1, 1, 1, 1, 1] := qS rfl
theorem q90_11111111000100 : QS 90 g90 [0, 0, 1, 0, 0, 0, 1, 1, 1, 1, 1, 1, 1, 1] := qS rfl
theorem q90_111111110001000 : QR 90 g90 [0, 0, 0, 1, 0, 0, 0, 1, 1, 1, 1, 1, 1, 1, 1] 5 := qR rfl rfl
theorem q90_111111110001001 : QC 90 g90 [1, 0, 0, 1, 0, 0, 0, 1, 1, 1, 1, 1, 1, 1, 1] 64 := qC rfl
theorem q90_1111111100010010 : QS 90 g90 [0, 1, 0, 0, 1, 0, 0, 0, 1, 1, 1, 1, 1, 1, 1, 1] := qS rfl
theorem q90_11111111000100100 : QR 90 g90 [0, 0, 1, 0, 0, 1, 0, 0, 0, 1, 1, 1, 1, 1, 1, 1, 1] 8 := qR rfl rfl
theorem q90_11111111000100101 : QS 90 g90 [1, 0, 1, 0, 0, 1, 0, 0, 0, 1, 1, 1, 1, 1, 1, 1, 1] := qS rfl
theorem q90_111111110001001010 : QS 90 g90 [0, 1, 0, 1, 0, 0, 1, 0, 0, 0, 1, 1, 1, 1, 1, 1, 1, 1] := qS rfl
theorem q90_1111111100010010100 : QR 90 g90 [0, 0, 1, 0, 1, 0, 0, 1, 0, 0, 0, 1, 1, 1, 1, 1, 1, 1, 1] 2 := qR rfl rfl
theorem q90_1111111100010010101 : QC 90 g90 [1, 0, 1, 0, 1, 0, 0, 1, 0, 0, 0, 1, 1, 1, 1, 1, 1, 1, 1] 73 := qC rfl
theorem q90_11111111000100101010 : QS 90 g90 [0, 1, 0, 1, 0, 1, 0, 0, 1, 0, 0, 0, 1, 1, 1, 1, 1, 1, 1, 1] := qS rfl
theorem q90_111111110001001010100 : QR 90 g90 [0, 0, 1, 0, 1, 0, 1, 0, 0, 1, 0, 0, 0, 1, 1, 1, 1, 1, 1, 1, 1] 1 := qR rfl rfl
theorem q90_111111110001001010101 : QT 90 g90 [1, 0, 1, 0, 1, 0, 1, 0, 0, 1, 0, 0, 0, 1, 1, 1, 1, 1, 1, 1, 1] := qT rfl
theorem q90_11111111000100101011 : QK 90 g90 [1, 1, 0, 1, 0, 1, 0, 0, 1, 0, 0, 0, 1, 1, 1, 1, 1, 1, 1, 1] := qK rfl
theorem q90_111111110001001011 : QR 90 g90 [1, 1, 0, 1, 0, 0, 1, 0, 0, 0, 1, 1, 1, 1, 1, 1, 1, 1] 5 := qR rfl rfl
theorem q90_1111111100010011 : QK 90 g90 [1, 1, 0, 0, 1, 0, 0, 0, 1, 1, 1, 1, 1, 1, 1, 1] := qK rfl
theorem q90_11111111000101 : QS 90 g90 [1, 0, 1, 0, 0, 0, 1, 1, 1, 1, 1, 1, 1, 1] := qS rfl
theorem q90_111111110001010 : QS 90 g90 [0, 1, 0, 1, 0, 0, 0, 1, 1, 1, 1, 1, 1, 1, 1] := qS rfl
theorem q90_1111111100010100 : QR 90 g90 [0, 0, 1, 0, 1, 0, 0, 0, 1, 1, 1, 1, 1, 1, 1, 1] 16 := qR rfl rfl
theorem q90_1111111100010101 : QC 90 g90 [1, 0, 1, 0, 1, 0, 0, 0, 1, 1, 1, 1, 1, 1, 1, 1] 93 := qC rfl
theorem q90_11111111000101010 : QS 90 g90 [0, 1, 0, 1, 0, 1, 0, 0, 0, 1, 1, 1, 1, 1, 1, 1, 1] := qS rfl
theorem q90_111111110001010100 : QR 90 g90 [0, 0, 1, 0, 1, 0, 1, 0, 0, 0, 1, 1, 1, 1, 1, 1, 1, 1] 2 := qR rfl rfl
theorem q90_111111110001010101 : QT 90 g90 [1, 0, 1, 0, 1, 0, 1, 0, 0, 0, 1, 1, 1, 1, 1, 1, 1, 1] := qT rfl
theorem q90_11111111000101011 : QK 90 g90 [1, 1, 0, 1, 0, 1, 0, 0, 0, 1, 1, 1, 1, 1, 1, 1, 1] := qK rfl
theorem q90_111111110001011 : QS 90 g90 [1, 1, 0, 1, 0, 0, 0, 1, 1, 1, 1, 1, 1, 1, 1] := qS rfl
theorem q90_1111111100010110 : QR 90 g90 [0, 1, 1, 0, 1, 0, 0, 0, 1, 1, 1, 1, 1, 1, 1, 1] 3 := qR rfl rfl
theorem q90_1111111100010111 : QS 90 g90 [1, 1, 1, 0, 1, 0, 0, 0, 1, 1, 1, 1, 1, 1, 1, 1] := qS rfl
theorem q90_11111111000101110 : QR 90 g90 [0, 1, 1, 1, 0, 1, 0, 0, 0, 1, 1, 1, 1, 1, 1, 1, 1] 3 := qR rfl rfl
theorem q90_11111111000101111 : QS 90 g90 [1, 1, 1, 1, 0, 1, 0, 0, 0, 1, 1, 1, 1, 1, 1, 1, 1] := qS rfl
theorem q90_111111110001011110 : QR 90 g90 [0, 1, 1, 1, 1, 0, 1, 0, 0, 0, 1, 1, 1, 1, 1, 1, 1, 1] 9 := qR rfl rfl
theorem q90_111111110001011111 : QC 90 g90 [1, 1, 1, 1, 1, 0, 1, 0, 0, 0, 1, 1, 1, 1, 1, 1, 1, 1] 107 := qC rfl
theorem q90_1111111100010111110 : QS 90 g90 [0, 1, 1, 1, 1, 1, 0, 1, 0, 0, 0, 1, 1, 1, 1, 1, 1, 1, 1] := qS rfl
theorem q90_11111111000101111100 : QR 90 g90 [0, 0, 1, 1, 1, 1, 1, 0, 1, 0, 0, 0, 1, 1, 1, 1, 1, 1, 1, 1] 6 := qR rfl rfl
theorem q90_11111111000101111101 : QS 90 g90 [1, 0, 1, 1, 1, 1, 1, 0, 1, 0, 0, 0, 1, 1, 1, 1, 1, 1, 1, 1] := qS rfl
theorem q90_111111110001011111010 : QS 90 g90 [0, 1, 0, 1, 1, 1, 1, 1, 0, 1, 0, 0, 0, 1, 1, 1, 1, 1, 1, 1, 1] := qS rfl
theorem q90_1111111100010111110100 : QR 90 g90 [0, 0, 1, 0, 1, 1, 1, 1, 1, 0, 1, 0, 0, 0, 1, 1, 1, 1, 1, 1, 1, 1] 2 := qR rfl rfl
theorem q90_1111111100010111110101 : QC 90 g90 [1, 0, 1, 0, 1, 1, 1, 1, 1, 0, 1, 0, 0, 0, 1, 1, 1, 1, 1, 1, 1, 1] 114 := qC rfl
theorem q90_11111111000101111101010 : QS 90 g90 [0, 1, 0, 1, 0, 1, 1, 1, 1, 1, 0, 1, 0, 0, 0, 1, 1, 1, 1, 1, 1, 1, 1] := qS rfl
theorem q90_111111110001011111010100 : QR 90 g90 [0, 0, 1, 0, 1, 0, 1, 1, 1, 1, 1, 0, 1, 0, 0, 0, 1, 1, 1, 1, 1, 1, 1, 1] 4 := qR rfl rfl
theorem q90_111111110001011111010101 : QT 90 g90 [1, 0, 1, 0, 1, 0, 1, 1, 1, 1, 1, 0, 1, 0, 0, 0, 1, 1, 1, 1, 1, 1, 1, 1] := qT rfl
theorem q90_11111111000101111101011 : QK 90 g90 [1, 1, 0, 1, 0, 1, 1, 1, 1, 1, 0, 1, 0, 0, 0, 1, 1, 1, 1, 1, 1, 1, 1] := qK rfl
theorem q90_111111110001011111011 : QS 90 g90 [1, 1, 0, 1, 1, 1, 1, 1, 0, 1, 0, 0, 0, 1, 1, 1, 1, 1, 1, 1, 1] := qS rfl
theorem q90_1111111100010111110110 : QR 90 g90 [0, 1, 1, 0, 1, 1, 1, 1, 1, 0, 1, 0, 0, 0, 1, 1, 1, 1, 1, 1, 1, 1] 1 := qR rfl rfl
theorem q90_1111111100010111110111 : QT 90 g90 [1, 1, 1, 0, 1, 1, 1, 1, 1, 0, 1, 0, 0, 0, 1, 1, 1, 1, 1, 1, 1, 1] := qT rfl
theorem q90_1111111100010111111 : QS 90 g90 [1, 1, 1, 1, 1, 1, 0, 1, 0, 0, 0, 1, 1, 1, 1, 1, 1, 1, 1] := qS rfl
theorem q90_11111111000101111110 : QR 90 g90 [0, 1, 1, 1, 1, 1, 1, 0, 1, 0, 0, 0, 1, 1, 1, 1, 1, 1, 1, 1] 15 := qR rfl rfl
theorem q90_11111111000101111111 : QC 90 g90 [1, 1, 1, 1, 1, 1, 1, 0, 1, 0, 0, 0, 1, 1, 1, 1, 1, 1, 1, 1] 132 := qC rfl
theorem q90_111111110001011111110 : QS 90 g90 [0, 1, 1, 1, 1, 1, 1, 1, 0, 1, 0, 0, 0, 1, 1, 1, 1, 1, 1, 1, 1] := qS rfl
theorem q90_1111111100010111111100 : QR 90 g90 [0, 0, 1, 1, 1, 1, 1, 1, 1, 0, 1, 0, 0, 0, 1, 1, 1, 1, 1, 1, 1, 1] 6 := qR rfl rfl
theorem q90_1111111100010111111101 : QS 90 g90 [1, 0, 1, 1, 1, 1, 1, 1, 1, 0, 1, 0, 0, 0, 1, 1, 1, 1, 1, 1, 1, 1] := qS rfl
theorem q90_11111111000101111111010 : QS 90 g90 [0, 1, 0, 1, 1, 1, 1, 1, 1, 1, 0, 1, 0, 0, 0, 1, 1, 1, 1, 1, 1, 1, 1] := qS rfl
theorem q90_111111110001011111110100 : QR 90 g90 [0, 0, 1, 0, 1, 1, 1, 1, 1, 1, 1, 0, 1, 0, 0, 0, 1, 1, 1, 1, 1, 1, 1, 1] 2 := qR rfl rfl
theorem q90_111111110001011111110101 : QC 90 g90 [1, 0, 1, 0, 1, 1, 1, 1, 1, 1, 1, 0, 1, 0, 0, 0, 1, 1, 1, 1, 1, 1, 1, 1] 139 := qC rfl
theorem q90_1111111100010111111101010 : QS 90 g90 [0, 1, 0, 1, 0, 1, 1, 1, 1, 1, 1, 1, 0, 1, 0, 0, 0, 1, 1, 1, 1, 1, 1, 1, 1] := qS rfl
theorem q90_11111111000101111111010100 : QR 90 g90 [0, 0, 1, 0, 1, 0, 1, 1, 1, 1, 1, 1, 1, 0, 1, 0, 0, 0, 1, 1, 1, 1, 1, 1, 1, 1] 1 := qR rfl rfl
theorem q90_11111111000101111111010101 : QT 90 g90 [1, 0, 1, 0, 1, 0, 1, 1, 1, 1, 1, 1, 1, 0, 1, 0, 0, 0, 1, 1, 1, 1, 1, 1, 1, 1] := qT rfl
theorem q90_1111111100010111111101011 : QK 90 g90 [1, 1, 0, 1, 0, 1, 1, 1, 1, 1, 1, 1, 0, 1, 0, 0, 0, 1, 1, 1, 1, 1, 1, 1, 1] := qK rfl
theorem q90_11111111000101111111011 : QS 90 g90 [1, 1, 0, 1, 1, 1, 1, 1, 1, 1, 0, 1, 0, 0, 0, 1, 1, 1, 1, 1, 1, 1, 1] := qS rfl
theorem q90_111111110001011111110110 : QR 90 g90 [0, 1, 1, 0, 1, 1, 1, 1, 1, 1, 1, 0, 1, 0, 0, 0, 1, 1, 1, 1, 1, 1, 1, 1] 4 := qR rfl rfl
theorem q90_111111110001011111110111 : QT 90 g90 [1, 1, 1, 0, 1, 1, 1, 1, 1, 1, 1, 0, 1, 0, 0, 0, 1, 1, 1, 1, 1, 1, 1, 1] := qT rfl
theorem q90_111111110001011111111 : QK 90 g90 [1, 1, 1, 1, 1, 1, 1, 1, 0, 1, 0, 0, 0, 1, 1, 1, 1, 1, 1, 1, 1] := qK rfl
theorem q90_111111111 : QS 90 g90 [1, 1, 1, 1, 1, 1, 1, 1, 1] := qS rfl
theorem q90_1111111110 : QR 90 g90 [0, 1, 1, 1, 1, 1, 1, 1, 1, 1] 1 := qR rfl rfl
theorem q90_1111111111 : QT 90 g90 [1, 1, 1, 1, 1, 1, 1, 1, 1, 1] := qT rfl
theorem o10 : OE g10 Try.f10 [0] ∧ OE g10 Try.f10 [0, 1] ∧ OE g10 Try.f10 [0, 0, 1, 1] ∧ OE g10 Try.f10 [0, 0, 1, 0, 1, 1] ∧ OE g10 Try.f10 [0, 1, 1, 1] := ⟨oe_eq _ _, oe_eq _ _, oe_eq _ _, oe_eq _ _, oe_eq _ _⟩
theorem o11 : OE g11 Try.f11 [0] ∧ OE g11 Try.f11 [0, 0, 1] ∧ OE g11 Try.f11 [0, 0, 1, 0, 1] ∧ OE g11 Try.f11 [0, 0, 1, 1] ∧ OE g11 Try.f11 [0, 0, 0, 0, 1, 0, 1, 1] ∧ OE g11 Try.f11 [0, 0, 0, 1, 0, 0, 1, 0, 1, 1] ∧ OE g11 Try.f11 [0, 0, 1, 0, 0, 1, 0, 0, 1, 0, 1, 1] ∧ OE g11 Try.f11 [1, 1, 0, 0, 1, 0, 1, 1] ∧ OE g11 Try.f11 [0, 0, 1, 1, 1] ∧ OE g11 Try.f11 [0, 0, 0, 0, 1, 0, 1, 1, 1] ∧ OE g11 Try.f11 [0, 0, 0, 1, 0, 0, 1, 0, 1, 1, 1] ∧ OE g11 Try.f11 [0, 0, 1, 0, 0, 1, 0, 0, 1, 0, 1, 1, 1] ∧ OE g11 Try.f11 [0, 0, 1, 0, 1, 0, 0, 1, 0, 0, 1, 0, 1, 1, 1] ∧ OE g11 Try.f11 [0, 1, 1, 0, 0, 1, 0, 0, 1, 0, 1, 1, 1] ∧ OE g11 Try.f11 [0, 0, 1, 1, 1, 0, 0, 1, 0, 0, 1, 0, 1, 1, 1] ∧ OE g11 Try.f11 [1, 1, 0, 0, 1, 0, 1, 1, 1] ∧ OE g11 Try.f11 [0, 1, 1, 1, 1] := ⟨oe_eq _ _, oe_eq _ _, oe_eq _ _, oe_eq _ _, oe_eq _ _, oe_eq _ _, oe_eq _ _, oe_eq _ _, oe_eq _ _, oe_eq _ _, oe_eq _ _, oe_eq _ _, oe_eq _ _, oe_eq _ _, oe_eq _ _, oe_eq _ _, oe_eq _ _⟩
theorem o11_110100 : OE g11 Try.f11 [0, 0, 0, 0, 1, 0, 1, 1] ∧ OE g11 Try.f11 [0, 0, 0, 1, 0, 0, 1, 0, 1, 1] ∧ OE g11 Try.f11 [0, 0, 1, 0, 0, 1, 0, 0, 1, 0, 1, 1] ∧ OE g11 Try.f11 [1, 1, 0, 0, 1, 0, 1, 1] := ⟨oe_eq _ _, oe_eq _ _, oe_eq _ _, oe_eq _ _⟩
theorem o11_1110100 : OE g11 Try.f11 [0, 0, 0, 0, 1, 0, 1, 1, 1] ∧ OE g11 Try.f11 [0, 0, 0, 1, 0, 0, 1, 0, 1, 1, 1] ∧ OE g11 Try.f11 [0, 0, 1, 0, 0, 1, 0, 0, 1, 0, 1, 1, 1] ∧ OE g11 Try.f11 [0, 0, 1, 0, 1, 0, 0, 1, 0, 0, 1, 0, 1, 1, 1] ∧ OE g11 Try.f11 [0, 1, 1, 0, 0, 1, 0, 0, 1, 0, 1, 1, 1] ∧ OE g11 Try.f11 [0, 0, 1, 1, 1, 0, 0, 1, 0, 0, 1, 0, 1, 1, 1] ∧ OE g11 Try.f11 [1, 1, 0, 0, 1, 0, 1, 1, 1] := ⟨oe_eq _ _, oe_eq _ _, oe_eq _ _, oe_eq _ _, oe_eq _ _, oe_eq _ _, oe_eq _ _⟩
theorem o12 : OE g12 Try.f12 [0] ∧ OE g12 Try.f12 [0, 1] ∧ OE g12 Try.f12 [0, 0, 1, 1] ∧ OE g12 Try.f12 [0, 0, 0, 0, 1, 0, 1, 1] ∧ OE g12 Try.f12 [0, 0, 0, 1, 0, 0, 1, 0, 1, 1] ∧ OE g12 Try.f12 [0, 1, 0, 0, 1, 0, 0, 1, 0, 1, 1] ∧ OE g12 Try.f12 [0, 1, 1, 0, 0, 1, 0, 0, 1, 0, 1, 1] ∧ OE g12 Try.f12 [1, 1, 0, 0, 1, 0, 1, 1] ∧ OE g12 Try.f12 [0, 0, 1, 1, 1] ∧ OE g12 Try.f12 [0, 0, 0, 0, 1, 0, 1, 1, 1] ∧ OE g12 Try.f12 [0, 0, 0, 1, 0, 0, 1, 0, 1, 1, 1] ∧ OE g12 Try.f12 [0, 0, 0, 0, 1, 0, 0, 1, 0, 0, 1, 0, 1, 1, 1] ∧ OE g12 Try.f12 [0, 0, 1, 0, 0, 1, 0, 0, 1, 0, 0, 1, 0, 1, 1, 1] ∧ OE g12 Try.f12 [1, 1, 0, 0, 1, 0, 0, 1, 0, 0, 1, 0, 1, 1, 1] ∧ OE g12 Try.f12 [1, 1, 0, 0, 1, 0, 1, 1, 1] ∧ OE g12 Try.f12 [0, 1, 1, 1, 1] := ⟨oe_eq _ _, oe_eq _ _, oe_eq _ _, oe_eq _ _, oe_eq _ _, oe_eq _ _, oe_eq _ _, oe_eq _ _, oe_eq _ _, oe_eq _ _, oe_eq _ _, oe_eq _ _, oe_eq _ _, oe_eq _ _, oe_eq _ _, oe_eq _ _⟩
theorem o12_110100 : OE g12 Try.f12 [0, 0, 0, 0, 1, 0, 1, 1] ∧ OE g12 Try.f12 [0, 0, 0, 1, 0, 0, 1, 0, 1, 1] ∧ OE g12 Try.f12 [0, 1, 0, 0, 1, 0, 0, 1, 0, 1, 1] ∧ OE g12 Try.f12 [0, 1, 1, 0, 0, 1, 0, 0, 1, 0, 1, 1] ∧ OE g12 Try.f12 [1, 1, 0, 0, 1, 0, 1, 1] := ⟨oe_eq _ _, oe_eq _ _, oe_eq _ _, oe_eq _ _, oe_eq _ _⟩
theorem o12_1110100 : OE g12 Try.f12 [0, 0, 0, 0, 1, 0, 1, 1, 1] ∧ OE g12 Try.f12 [0, 0, 0, 1, 0, 0, 1, 0, 1, 1, 1] ∧ OE g12 Try.f12 [0, 0, 0, 0, 1, 0, 0, 1, 0, 0, 1, 0, 1, 1, 1] ∧ OE g12 Try.f12 [0, 0, 1, 0, 0, 1, 0, 0, 1, 0, 0, 1, 0, 1, 1, 1] ∧ OE g12 Try.f12 [1, 1, 0, 0, 1, 0, 0, 1, 0, 0, 1, 0, 1, 1, 1] ∧ OE g12 Try.f12 [1, 1, 0, 0, 1, 0, 1, 1, 1] := ⟨oe_eq _ _, oe_eq _ _, oe_eq _ _, oe_eq _ _, oe_eq _ _, oe_eq _ _⟩
theorem o12_1110100100100 : OE g12 Try.f12 [0, 0, 0, 0, 1, 0, 0, 1, 0, 0, 1, 0, 1, 1, 1] ∧ OE g12 Try.f12 [0, 0, 1, 0, 0, 1, 0, 0, 1, 0, 0, 1, 0, 1, 1, 1] ∧ OE g12 Try.f12 [1, 1, 0, 0, 1, 0, 0, 1, 0, 0, 1, 0, 1, 1, 1] := ⟨oe_eq _ _, oe_eq _ _, oe_eq _ _⟩
theorem o13 : OE g13 Try.f13 [0] ∧ OE g13 Try.f13 [0, 1] ∧ OE g13 Try.f13 [0, 0, 1, 1] ∧ OE g13 Try.f13 [0, 0, 0, 0, 1, 0, 1, 1] ∧ OE g13 Try.f13 [0, 0, 1, 0, 0, 1, 0, 1, 1] ∧ OE g13 Try.f13 [1, 1, 0, 0, 1, 0, 1, 1] ∧ OE g13 Try.f13 [0, 1, 1, 1] := ⟨oe_eq _ _, oe_eq _ _, oe_eq _ _, oe_eq _ _, oe_eq _ _, oe_eq _ _, oe_eq _ _⟩
theorem o13_110100 : OE g13 Try.f13 [0, 0, 0, 0, 1, 0, 1, 1] ∧ OE g13 Try.f13 [0, 0, 1, 0, 0, 1, 0, 1, 1] ∧ OE g13 Try.f13 [1, 1, 0, 0, 1, 0, 1, 1] := ⟨oe_eq _ _, oe_eq _ _, oe_eq _ _⟩
theorem o14 : OE g14 Try.f14 [0] ∧ OE g14 Try.f14 [0, 1] ∧ OE g14 Try.f14 [0, 0, 1, 1] ∧ OE g14 Try.f14 [0, 0, 0, 0, 1, 0, 1, 1] ∧ OE g14 Try.f14 [0, 0, 1, 0, 0, 1, 0, 1, 1] ∧ OE g14 Try.f14 [1, 1, 0, 0, 1, 0, 1, 1] ∧ OE g14 Try.f14 [0, 1, 1, 1] := ⟨oe_eq _ _, oe_eq _ _, oe_eq _ _, oe_eq _ _, oe_eq _ _, oe_eq _ _, oe_eq _ _⟩
theorem o14_110100 : OE g14 Try.f14 [0, 0, 0, 0, 1, 0, 1, 1] ∧ OE g14 Try.f14 [0, 0, 1, 0, 0, 1, 0, 1, 1] ∧ OE g14 Try.f14 [1, 1, 0, 0, 1, 0, 1, 1] := ⟨oe_eq _ _, oe_eq _ _, oe_eq _ _⟩
theorem o15 : OE g15 Try.f15 [0] ∧ OE g15 Try.f15 [0, 0, 1] ∧ OE g15 Try.f15 [0, 0, 0, 1, 0, 1] ∧ OE g15 Try.f15 [0, 0, 0, 1, 1, 0, 0, 1, 0, 1] ∧ OE g15 Try.f15 [0, 1, 0, 0, 1, 1, 0, 0, 1, 0, 1] ∧ OE g15 Try.f15 [0, 0, 1, 1, 0, 0, 1, 1, 0, 0, 1, 0, 1] ∧ OE g15 Try.f15 [1, 1, 1, 0, 0, 1, 0, 1] ∧ OE g15 Try.f15 [0, 0, 1, 1] ∧ OE g15 Try.f15 [0, 0, 0, 1, 0, 1, 1] ∧ OE g15 Try.f15 [0, 0, 0, 1, 1, 0, 0, 1, 0, 1, 1] ∧ OE g15 Try.f15 [0, 1, 0, 0, 1, 1, 0, 0, 1, 0, 1, 1] ∧ OE g15 Try.f15 [0, 0, 1, 1, 0, 0, 1, 1, 0, 0, 1, 0, 1, 1] ∧ OE g15 Try.f15 [1, 1, 1, 0, 0, 1, 0, 1, 1] ∧ OE g15 Try.f15 [0, 1, 1, 1] := ⟨oe_eq _ _, oe_eq _ _, oe_eq _ _, oe_eq _ _, oe_eq _ _, oe_eq _ _, oe_eq _ _, oe_eq _ _, oe_eq _ _, oe_eq _ _, oe_eq _ _, oe_eq _ _, oe_eq _ _, oe_eq _ _⟩
theorem o15_10100 : OE g15 Try.f15 [0, 0, 0, 1, 0, 1] ∧ OE g15 Try.f15 [0, 0, 0, 1, 1, 0, 0, 1, 0, 1] ∧ OE g15 Try.f15 [0, 1, 0, 0, 1, 1, 0, 0, 1, 0, 1] ∧ OE g15 Try.f15 [0, 0, 1, 1, 0, 0, 1, 1, 0, 0, 1, 0, 1] ∧ OE g15 Try.f15 [1, 1, 1, 0, 0, 1, 0, 1] := ⟨oe_eq _ _, oe_eq _ _, oe_eq _ _, oe_eq _ _, oe_eq _ _⟩
theorem o15_110100 : OE g15 Try.f15 [0, 0, 0, 1, 0, 1, 1] ∧ OE g15 Try.f15 [0, 0, 0, 1, 1, 0, 0, 1, 0, 1, 1] ∧ OE g15 Try.f15 [0, 1, 0, 0, 1, 1, 0, 0, 1, 0, 1, 1] ∧ OE g15 Try.f15 [0, 0, 1, 1, 0, 0, 1, 1, 0, 0, 1, 0, 1, 1] ∧ OE g15 Try.f15 [1, 1, 1, 0, 0, 1, 0, 1, 1] := ⟨oe_eq _ _, oe_eq _ _, oe_eq _ _, oe_eq _ _, oe_eq _ _⟩
theorem o16 : OE g16 Try.f16 [0] ∧ OE g16 Try.f16 [0, 1] ∧ OE g16 Try.f16 [0, 0, 1, 1] ∧ OE g16 Try.f16 [0, 0, 0, 1, 0, 1, 1] ∧ OE g16 Try.f16 [0, 0, 0, 1, 1, 0, 0, 1, 0, 1, 1] ∧ OE g16 Try.f16 [0, 0, 1, 0, 0, 1, 1, 0, 0, 1, 0, 1, 1] ∧ OE g16 Try.f16 [0, 1, 1, 0, 0, 1, 1, 0, 0, 1, 0, 1, 1] ∧ OE g16 Try.f16 [0, 1, 1, 1, 0, 0, 1, 1, 0, 0, 1, 0, 1, 1] ∧ OE g16 Try.f16 [0, 1, 1, 1, 1, 0, 0, 1, 1, 0, 0, 1, 0, 1, 1] ∧ OE g16 Try.f16 [1, 1, 1, 0, 0, 1, 0, 1, 1] ∧ OE g16 Try.f16 [0, 0, 1, 1, 1] ∧ OE g16 Try.f16 [0, 0, 0, 0, 1, 0, 1, 1, 1] ∧ OE g16 Try.f16 [0, 0, 0, 1, 0, 0, 1, 0, 1, 1, 1] ∧ OE g16 Try.f16 [0, 0, 0, 1, 0, 0, 1, 0, 0, 1, 0, 1, 1, 1] ∧ OE g16 Try.f16 [0, 0, 0, 1, 1, 0, 0, 1, 0, 0, 1, 0, 0, 1, 0, 1, 1, 1] ∧ OE g16 Try.f16 [1, 0, 0, 1, 1, 0, 0, 1, 0, 0, 1, 0, 0, 1, 0, 1, 1, 1] ∧ OE g16 Try.f16 [1, 1, 1, 0, 0, 1, 0, 0, 1, 0, 0, 1, 0, 1, 1, 1] ∧ OE g16 Try.f16 [1, 1, 0, 0, 1, 0, 1, 1, 1] ∧ OE g16 Try.f16 [0, 1, 1, 1, 1] := ⟨oe_eq _ _, oe_eq _ _, oe_eq _ _, oe_eq _ _, oe_eq _ _, oe_eq _ _, oe_eq _ _, oe_eq _ _, oe_eq _ _, oe_eq _ _, oe_eq _ _, oe_eq _ _, oe_eq _ _, oe_eq _ _, oe_eq _ _, oe_eq _ _, oe_eq _ _, oe_eq _ _, oe_eq _ _⟩
theorem o16_110100 : OE g16 Try.f16 [0, 0, 0, 1, 0, 1, 1] ∧ OE g16 Try.f16 [0, 0, 0, 1, 1, 0, 0, 1, 0, 1, 1] ∧ OE g16 Try.f16 [0, 0, 1, 0, 0, 1, 1, 0, 0, 1, 0, 1, 1] ∧ OE g16 Try.f16 [0, 1, 1, 0, 0, 1, 1, 0, 0, 1, 0, 1, 1] ∧ OE g16 Try.f16 [0, 1, 1, 1, 0, 0, 1, 1, 0, 0, 1, 0, 1, 1] ∧ OE g16 Try.f16 [0, 1, 1, 1, 1, 0, 0, 1, 1, 0, 0, 1, 0, 1, 1] ∧ OE g16 Try.f16 [1, 1, 1, 0, 0, 1, 0, 1, 1] := ⟨oe_eq _ _, oe_eq _ _, oe_eq _ _, oe_eq _ _, oe_eq _ _, oe_eq _ _, oe_eq _ _⟩
theorem o16_1110100 : OE g16 Try.f16 [0, 0, 0, 0, 1, 0, 1, 1, 1] ∧ OE g16 Try.f16 [0, 0, 0, 1, 0, 0, 1, 0, 1, 1, 1] ∧ OE g16 Try.f16 [0, 0, 0, 1, 0, 0, 1, 0, 0, 1, 0, 1, 1, 1] ∧ OE g16 Try.f16 [0, 0, 0, 1, 1, 0, 0, 1, 0, 0, 1, 0, 0, 1, 0, 1, 1, 1] ∧ OE g16 Try.f16 [1, 0, 0, 1, 1, 0, 0, 1, 0, 0, 1, 0, 0, 1, 0, 1, 1, 1] ∧ OE g16 Try.f16 [1, 1, 1, 0, 0, 1, 0, 0, 1, 0, 0, 1, 0, 1, 1, 1] ∧ OE g16 Try.f16 [1, 1, 0, 0, 1, 0, 1, 1, 1] := ⟨oe_eq _ _, oe_eq _ _, oe_eq _ _, oe_eq _ _, oe_eq _ _, oe_eq _ _, oe_eq _ _⟩
theorem o16_1110100100100 : OE g16 Try.f16 [0, 0, 0, 1, 0, 0, 1, 0, 0, 1, 0, 1, 1, 1] ∧ OE g16 Try.f16 [0, 0, 0, 1, 1, 0, 0, 1, 0, 0, 1, 0, 0, 1, 0, 1, 1, 1] ∧ OE g16 Try.f16 [1, 0, 0, 1, 1, 0, 0, 1, 0, 0, 1, 0, 0, 1, 0, 1, 1, 1] ∧ OE g16 Try.f16 [1, 1, 1, 0, 0, 1, 0, 0, 1, 0, 0, 1, 0, 1, 1, 1] := ⟨oe_eq _ _, oe_eq _ _, oe_eq _ _, oe_eq _ _⟩
theorem o17 : OE g17 Try.f17 [0] ∧ OE g17 Try.f17 [0, 0, 1] ∧ OE g17 Try.f17 [0, 0, 1, 0, 1] ∧ OE g17 Try.f17 [0, 1, 1] := ⟨oe_eq _ _, oe_eq _ _, oe_eq _ _, oe_eq _ _⟩
theorem o18 : OE g18 Try.f18 [0] ∧ OE g18 Try.f18 [0, 0, 1] ∧ OE g18 Try.f18 [0, 0, 1, 0, 1] ∧ OE g18 Try.f18 [0, 0, 1, 1] ∧ OE g18 Try.f18 [0, 0, 0, 0, 1, 0, 1, 1] ∧ OE g18 Try.f18 [0, 0, 0, 1, 0, 0, 1, 0, 1, 1] ∧ OE g18 Try.f18 [0, 0, 1, 0, 0, 1, 0, 0, 1, 0, 1, 1] ∧ OE g18 Try.f18 [1, 1, 0, 0, 1, 0, 1, 1] ∧ OE g18 Try.f18 [0, 1, 1, 1] := ⟨oe_eq _ _, oe_eq _ _, oe_eq _ _, oe_eq _ _, oe_eq _ _, oe_eq _ _, oe_eq _ _, oe_eq _ _, oe_eq _ _⟩
theorem o18_110100 : OE g18 Try.f18 [0, 0, 0, 0, 1, 0, 1, 1] ∧ OE g18 Try.f18 [0, 0, 0, 1, 0, 0, 1, 0, 1, 1] ∧ OE g18 Try.f18 [0, 0, 1, 0, 0, 1, 0, 0, 1, 0, 1, 1] ∧ OE g18 Try.f18 [1, 1, 0, 0, 1, 0, 1, 1] := ⟨oe_eq _ _, oe_eq _ _, oe_eq _ _, oe_eq _ _⟩
theorem o19 : OE g19 Try.f19 [0] ∧ OE g19 Try.f19 [0, 0, 1] ∧ OE g19 Try.f19 [0, 0, 1, 0, 1] ∧ OE g19 Try.f19 [0, 0, 1, 1] ∧ OE g19 Try.f19 [0, 0, 0, 0, 1, 0, 1, 1] ∧ OE g19 Try.f19 [0, 0, 0, 1, 0, 0, 1, 0, 1, 1] ∧ OE g19 Try.f19 [0, 0, 1, 0, 0, 1, 0, 0, 1, 0, 1, 1] ∧ OE g19 Try.f19 [1, 1, 0, 0, 1, 0, 1, 1] ∧ OE g19 Try.f19 [0, 1, 1, 1] := ⟨oe_eq _ _, oe_eq _ _, oe_eq _ _, oe_eq _ _, oe_eq _ _, oe_eq _ _, oe_eq _ _, oe_eq _ _, oe_eq _ _⟩
theorem o19_110100 : OE g19 Try.f19 [0, 0, 0, 0, 1, 0, 1, 1] ∧ OE g19 Try.f19 [0, 0, 0, 1, 0, 0, 1, 0, 1, 1] ∧ OE g19 Try.f19 [0, 0, 1, 0, 0, 1, 0, 0, 1, 0, 1, 1] ∧ OE g19 Try.f19 [1, 1, 0, 0, 1, 0, 1, 1] := ⟨oe_eq _ _, oe_eq _ _, oe_eq _ _, oe_eq _ _⟩
theorem o20 : OE g20 Try.f20 [0] ∧ OE g20 Try.f20 [0, 1] ∧ OE g20 Try.f20 [0, 0, 1, 1] ∧ OE g20 Try.f20 [0, 0, 1, 0, 1, 1] ∧ OE g20 Try.f20 [0, 1, 1, 1] ∧ OE g20 Try.f20 [0, 0, 1, 1, 1, 1] ∧ OE g20 Try.f20 [0, 0, 1, 0, 1, 1, 1, 1] ∧ OE g20 Try.f20 [0, 1, 1, 1, 1, 1] := ⟨oe_eq _ _, oe_eq _ _, oe_eq _ _, oe_eq _ _, oe_eq _ _, oe_eq _ _, oe_eq _ _, oe_eq _ _⟩
theorem o21 : OE g21 Try.f21 [0] ∧ OE g21 Try.f21 [0, 1] ∧ OE g21 Try.f21 [0, 1, 1] ∧ OE g21 Try.f21 [0, 0, 1, 1, 1] ∧ OE g21 Try.f21 [0, 0, 1, 0, 1, 1, 1] ∧ OE g21 Try.f21 [0, 0, 1, 1, 1, 1] ∧ OE g21 Try.f21 [0, 0, 0, 0, 1, 0, 1, 1, 1, 1] ∧ OE g21 Try.f21 [0, 0, 0, 0, 1, 0, 0, 1, 0, 1, 1, 1, 1] ∧ OE g21 Try.f21 [0, 0, 1, 0, 0, 0, 1, 0, 0, 1, 0, 1, 1, 1, 1] ∧ OE g21 Try.f21 [0, 1, 0, 0, 1, 0, 0, 1, 0, 1, 1, 1, 1] ∧ OE g21 Try.f21 [0, 1, 1, 0, 0, 1, 0, 0, 1, 0, 1, 1, 1, 1] ∧ OE g21 Try.f21 [0, 1, 1, 1, 0, 0, 1, 0, 0, 1, 0, 1, 1, 1, 1] ∧ OE g21 Try.f21 [0, 0, 1, 1, 1, 1, 0, 0, 1, 0, 0, 1, 0, 1, 1, 1, 1] ∧ OE g21 Try.f21 [1, 1, 0, 0, 1, 0, 1, 1, 1, 1] ∧ OE g21 Try.f21 [0, 1, 1, 1, 1, 1] := ⟨oe_eq _ _, oe_eq _ _, oe_eq _ _, oe_eq _ _, oe_eq _ _, oe_eq _ _, oe_eq _ _, oe_eq _ _, oe_eq _ _, oe_eq _ _, oe_eq _ _, oe_eq _ _, oe_eq _ _, oe_eq _ _, oe_eq _ _⟩
theorem o21_11110100 : OE g21 Try.f21 [0, 0, 0, 0, 1, 0, 1, 1, 1, 1] ∧ OE g21 Try.f21 [0, 0, 0, 0, 1, 0, 0, 1, 0, 1, 1, 1, 1] ∧ OE g21 Try.f21 [0, 0, 1, 0, 0, 0, 1, 0, 0, 1, 0, 1, 1, 1, 1] ∧ OE g21 Try.f21 [0, 1, 0, 0, 1, 0, 0, 1, 0, 1, 1, 1, 1] ∧ OE g21 Try.f21 [0, 1, 1, 0, 0, 1, 0, 0, 1, 0, 1, 1, 1, 1] ∧ OE g21 Try.f21 [0, 1, 1, 1, 0, 0, 1, 0, 0, 1, 0, 1, 1, 1, 1] ∧ OE g21 Try.f21 [0, 0, 1, 1, 1, 1, 0, 0, 1, 0, 0, 1, 0, 1, 1, 1, 1] ∧ OE g21 Try.f21 [1, 1, 0, 0, 1, 0, 1, 1, 1, 1] := ⟨oe_eq _ _, oe_eq _ _, oe_eq _ _, oe_eq _ _, oe_eq _ _, oe_eq _ _, oe_eq _ _, oe_eq _ _⟩
theorem o22 : OE g22 Try.f22 [0] ∧ OE g22 Try.f22 [0, 1] := ⟨oe_eq _ _, oe_eq _ _⟩
theorem o23 : OE g23 Try.f23 [0] ∧ OE g23 Try.f23 [0, 1] := ⟨oe_eq _ _, oe_eq _ _⟩
theorem o24 : OE g24 Try.f24 [0] ∧ OE g24 Try.f24 [0, 1] ∧ OE g24 Try.f24 [0, 1, 1] ∧ OE g24 Try.f24 [0, 1, 1, 1] ∧ OE g24 Try.f24 [0, 1, 1, 1, 1] ∧ OE g24 Try.f24 [0, 1, 1, 1, 1, 1] := ⟨oe_eq _ _, oe_eq _ _, oe_eq _ _, oe_eq _ _, oe_eq _ _, oe_eq _ _⟩
theorem o25 : OE g25 Try.f25 [0] ∧ OE g25 Try.f25 [0, 1] ∧ OE g25 Try.f25 [0, 1, 1] ∧ OE g25 Try.f25 [0, 1, 1, 1] ∧ OE g25 Try.f25 [0, 1, 1, 1, 1] ∧ OE g25 Try.f25 [0, 1, 1, 1, 1, 1] := ⟨oe_eq _ _, oe_eq _ _, oe_eq _ _, oe_eq _ _, oe_eq _ _, oe_eq _ _⟩
theorem o26 : OE g26 Try.f26 [0] ∧ OE g26 Try.f26 [0, 1] := ⟨oe_eq _ _, oe_eq _ _⟩
theorem o27 : OE g27 Try.f27 [0] ∧ OE g27 Try.f27 [0, 0, 1] ∧ OE g27 Try.f27 [0, 0, 0, 1, 0, 1] ∧ OE g27 Try.f27 [0, 0, 0, 1, 1, 0, 0, 1, 0, 1] ∧ OE g27 Try.f27 [0, 1, 0, 0, 1, 1, 0, 0, 1, 0, 1] ∧ OE g27 Try.f27 [0, 0, 1, 1, 0, 0, 1, 1, 0, 0, 1, 0, 1] ∧ OE g27 Try.f27 [1, 1, 1, 0, 0, 1, 0, 1] ∧ OE g27 Try.f27 [0, 1, 1] := ⟨oe_eq _ _, oe_eq _ _, oe_eq _ _, oe_eq _ _, oe_eq _ _, oe_eq _ _, oe_eq _ _, oe_eq _ _⟩
theorem o27_10100 : OE g27 Try.f27 [0, 0, 0, 1, 0, 1] ∧ OE g27 Try.f27 [0, 0, 0, 1, 1, 0, 0, 1, 0, 1] ∧ OE g27 Try.f27 [0, 1, 0, 0, 1, 1, 0, 0, 1, 0, 1] ∧ OE g27 Try.f27 [0, 0, 1, 1, 0, 0, 1, 1, 0, 0, 1, 0, 1] ∧ OE g27 Try.f27 [1, 1, 1, 0, 0, 1, 0, 1] := ⟨oe_eq _ _, oe_eq _ _, oe_eq _ _, oe_eq _ _, oe_eq _ _⟩
theorem o28 : OE g28 Try.f28 [0] ∧ OE g28 Try.f28 [0, 0, 1] ∧ OE g28 Try.f28 [0, 0, 1, 0, 1] ∧ OE g28 Try.f28 [0, 0, 1, 0, 1, 0, 1] ∧ OE g28 Try.f28 [0, 1, 1, 0, 1, 0, 1] ∧ OE g28 Try.f28 [0, 0, 1, 1, 1, 0, 1, 0, 1] ∧ OE g28 Try.f28 [0, 0, 1, 1, 1, 1, 0, 1, 0, 1] ∧ OE g28 Try.f28 [0, 1, 1, 0, 1, 1, 1, 1, 0, 1, 0, 1] ∧ OE g28 Try.f28 [0, 1, 1, 1, 1, 0, 1, 1, 1, 1, 0, 1, 0, 1] ∧ OE g28 Try.f28 [0, 1, 1, 1, 1, 1, 1, 0, 1, 1, 1, 1, 0, 1, 0, 1] ∧ OE g28 Try.f28 [0, 1, 1, 1, 1, 1, 1, 1, 1, 0, 1, 1, 1, 1, 0, 1, 0, 1] ∧ OE g28 Try.f28 [0, 1, 1, 1, 1, 1, 1, 1, 1, 1, 1, 0, 1, 1, 1, 1, 0, 1, 0, 1] ∧ OE g28 Try.f28 [1, 1, 1, 1, 1, 1, 1, 1, 1, 1, 1, 1, 0, 1, 1, 1, 1, 0, 1, 0, 1] ∧ OE g28 Try.f28 [0, 0, 1, 1, 1, 1, 1, 0, 1, 0, 1] ∧ OE g28 Try.f28 [0, 1, 1, 1, 1, 1, 1, 0, 1, 0, 1] ∧ OE g28 Try.f28 [0, 0, 1, 1, 1, 1, 1, 1, 1, 0, 1, 0, 1] ∧ OE g28 Try.f28 [0, 1, 0, 1, 1, 1, 1, 1, 1, 1, 0, 1, 0, 1] ∧ OE g28 Try.f28 [0, 1, 1] := ⟨oe_eq _ _, oe_eq _ _, oe_eq _ _, oe_eq _ _, oe_eq _ _, oe_eq _ _, oe_eq _ _, oe_eq _ _, oe_eq _ _, oe_eq _ _, oe_eq _ _, oe_eq _ _, oe_eq _ _, oe_eq _ _, oe_eq _ _, oe_eq _ _, oe_eq _ _, oe_eq _ _⟩
theorem o29 : OE g29 Try.f29 [0] ∧ OE g29 Try.f29 [0, 1] ∧ OE g29 Try.f29 [0, 0, 1, 1] ∧ OE g29 Try.f29 [0, 0, 0, 1, 0, 1, 1] ∧ OE g29 Try.f29 [0, 0, 0, 1, 1, 0, 0, 1, 0, 1, 1] ∧ OE g29 Try.f29 [0, 1, 0, 0, 1, 1, 0, 0, 1, 0, 1, 1] ∧ OE g29 Try.f29 [0, 0, 1, 1, 0, 0, 1, 1, 0, 0, 1, 0, 1, 1] ∧ OE g29 Try.f29 [0, 0, 1, 0, 1, 1, 0, 0, 1, 1, 0, 0, 1, 0, 1, 1] ∧ OE g29 Try.f29 [0, 0, 1, 0, 1, 0, 1, 1, 0, 0, 1, 1, 0, 0, 1, 0, 1, 1] ∧ OE g29 Try.f29 [0, 1, 1, 0, 1, 1, 0, 0, 1, 1, 0, 0, 1, 0, 1, 1] ∧ OE g29 Try.f29 [0, 0, 1, 1, 1, 0, 1, 1, 0, 0, 1, 1, 0, 0, 1, 0, 1, 1] ∧ OE g29 Try.f29 [0, 0, 1, 0, 1, 1, 1, 0, 1, 1, 0, 0, 1, 1, 0, 0, 1, 0, 1, 1] ∧ OE g29 Try.f29 [0, 1, 1, 1, 1, 0, 1, 1, 0, 0, 1, 1, 0, 0, 1, 0, 1, 1] ∧ OE g29 Try.f29 [0, 0, 1, 1, 1, 1, 1, 0, 1, 1, 0, 0, 1, 1, 0, 0, 1, 0, 1, 1] ∧ OE g29 Try.f29 [1, 1, 1, 0, 0, 1, 0, 1, 1] ∧ OE g29 Try.f29 [0, 0, 1, 1, 1] ∧ OE g29 Try.f29 [0, 0, 1, 0, 1, 1, 1] ∧ OE g29 Try.f29 [0, 1, 0, 1, 0, 1, 1, 1] ∧ OE g29 Try.f29 [0, 1, 1, 0, 1, 0, 1, 1, 1] ∧ OE g29 Try.f29 [0, 1, 1, 1, 0, 1, 0, 1, 1, 1] ∧ OE g29 Try.f29 [0, 1, 1, 1, 1] := ⟨oe_eq _ _, oe_eq _ _, oe_eq _ _, oe_eq _ _, oe_eq _ _, oe_eq _ _, oe_eq _ _, oe_eq _ _, oe_eq _ _, oe_eq _ _, oe_eq _ _, oe_eq _ _, oe_eq _ _, oe_eq _ _, oe_eq _ _, oe_eq _ _, oe_eq _ _, oe_eq _ _, oe_eq _ _, oe_eq _ _, oe_eq _ _⟩
theorem o29_110100 : OE g29 Try.f29 [0, 0, 0, 1, 0, 1, 1] ∧ OE g29 Try.f29 [0, 0, 0, 1, 1, 0, 0, 1, 0, 1, 1] ∧ OE g29 Try.f29 [0, 1, 0, 0, 1, 1, 0, 0, 1, 0, 1, 1] ∧ OE g29 Try.f29 [0, 0, 1, 1, 0, 0, 1, 1, 0, 0, 1, 0, 1, 1] ∧ OE g29 Try.f29 [0, 0, 1, 0, 1, 1, 0, 0, 1, 1, 0, 0, 1, 0, 1, 1] ∧ OE g29 Try.f29 [0, 0, 1, 0, 1, 0, 1, 1, 0, 0, 1, 1, 0, 0, 1, 0, 1, 1] ∧ OE g29 Try.f29 [0, 1, 1, 0, 1, 1, 0, 0, 1, 1, 0, 0, 1, 0, 1, 1] ∧ OE g29 Try.f29 [0, 0, 1, 1, 1, 0, 1, 1, 0, 0, 1, 1, 0, 0, 1, 0, 1, 1] ∧ OE g29 Try.f29 [0, 0, 1, 0, 1, 1, 1, 0, 1, 1, 0, 0, 1, 1, 0, 0, 1, 0, 1, 1] ∧ OE g29 Try.f29 [0, 1, 1, 1, 1, 0, 1, 1, 0, 0, 1, 1, 0, 0, 1, 0, 1, 1] ∧ OE g29 Try.f29 [0, 0, 1, 1, 1, 1, 1, 0, 1, 1, 0, 0, 1, 1, 0, 0, 1, 0, 1, 1] ∧ OE g29 Try.f29 [1, 1, 1, 0, 0, 1, 0, 1, 1] := ⟨oe_eq _ _, oe_eq _ _, oe_eq _ _, oe_eq _ _, oe_eq _ _, oe_eq _ _, oe_eq _ _, oe_eq _ _, oe_eq _ _, oe_eq _ _, oe_eq _ _, oe_eq _ _⟩
theorem o3 : OE g3 Try.f3 [0] ∧ OE g3 Try.f3 [0, 1] ∧ OE g3 Try.f3 [0, 1, 1] ∧ OE g3 Try.f3 [0, 0, 1, 1, 1] ∧ OE g3 Try.f3 [0, 0, 1, 0, 1, 1, 1] ∧ OE g3 Try.f3 [0, 1, 1, 1, 1] ∧ OE g3 Try.f3 [0, 1, 1, 1, 1, 1] ∧ OE g3 Try.f3 [0, 1, 1, 1, 1, 1, 1] ∧ OE g3 Try.f3 [0, 0, 1, 1, 1, 1, 1, 1, 1] ∧ OE g3 Try.f3 [0, 0, 1, 0, 1, 1, 1, 1, 1, 1, 1] ∧ OE g3 Try.f3 [0, 0, 1, 1, 1, 1, 1, 1, 1, 1] ∧ OE g3 Try.f3 [0, 0, 1, 0, 1, 1, 1, 1, 1, 1, 1, 1] ∧ OE g3 Try.f3 [0, 1, 1, 1, 1, 1, 1, 1, 1, 1] := ⟨oe_eq _ _, oe_eq _ _, oe_eq _ _, oe_eq _ _, oe_eq _ _, oe_eq _ _, oe_eq _ _, oe_eq _ _, oe_eq _ _, oe_eq _ _, oe_eq _ _, oe_eq _ _, oe_eq _ _⟩
theorem o30 : OE g30 Try.f30 [0] ∧ OE g30 Try.f30 [0, 0, 1] ∧ OE g30 Try.f30 [0, 0, 1, 0, 1] ∧ OE g30 Try.f30 [0, 0, 1, 1] ∧ OE g30 Try.f30 [0, 0, 1, 0, 1, 1] ∧ OE g30 Try.f30 [0, 1, 1, 1] := ⟨oe_eq _ _, oe_eq _ _, oe_eq _ _, oe_eq _ _, oe_eq _ _, oe_eq _ _⟩
theorem o31 : OE g31 Try.f31 [0] ∧ OE g31 Try.f31 [0, 0, 1] ∧ OE g31 Try.f31 [0, 0, 1, 0, 1] ∧ OE g31 Try.f31 [0, 0, 1, 1] ∧ OE g31 Try.f31 [0, 0, 1, 0, 1, 1] ∧ OE g31 Try.f31 [0, 0, 1, 1, 1] ∧ OE g31 Try.f31 [0, 0, 1, 0, 1, 1, 1] ∧ OE g31 Try.f31 [0, 1, 1, 1, 1] := ⟨oe_eq _ _, oe_eq _ _, oe_eq _ _, oe_eq _ _, oe_eq _ _, oe_eq _ _, oe_eq _ _, oe_eq _ _⟩
theorem o32 : OE g32 Try.f32 [0] ∧ OE g32 Try.f32 [0, 0, 1] ∧ OE g32 Try.f32 [0, 0, 1, 0, 1] ∧ OE g32 Try.f32 [0, 0, 1, 1] ∧ OE g32 Try.f32 [0, 0, 1, 0, 1, 1] ∧ OE g32 Try.f32 [0, 0, 1, 1, 1] ∧ OE g32 Try.f32 [0, 0, 1, 0, 1, 1, 1] ∧ OE g32 Try.f32 [0, 1, 1, 1, 1] := ⟨oe_eq _ _, oe_eq _ _, oe_eq _ _, oe_eq _ _, oe_eq _ _, oe_eq _ _, oe_eq _ _, oe_eq _ _⟩
theorem o33 : OE g33 Try.f33 [0] ∧ OE g33 Try.f33 [0, 1] ∧ OE g33 Try.f33 [0, 0, 1, 1] ∧ OE g33 Try.f33 [0, 0, 1, 0, 1, 1] ∧ OE g33 Try.f33 [0, 1, 1, 1] := ⟨oe_eq _ _, oe_eq _ _, oe_eq _ _, oe_eq _ _, oe_eq _ _⟩
theorem o34 : OE g34 Try.f34 [0] ∧ OE g34 Try.f34 [0, 0, 1] ∧ OE g34 Try.f34 [0, 0, 0, 1, 0, 1] ∧ OE g34 Try.f34 [0, 1, 1, 0, 0, 1, 0, 1] ∧ OE g34 Try.f34 [0, 1, 1, 1, 1, 0, 0, 1, 0, 1] ∧ OE g34 Try.f34 [0, 1, 1, 1, 1, 1, 1, 0, 0, 1, 0, 1] ∧ OE g34 Try.f34 [0, 1, 1, 1, 1, 1, 1, 1, 1, 0, 0, 1, 0, 1] ∧ OE g34 Try.f34 [1, 1, 1, 1, 1, 1, 1, 1, 1, 1, 0, 0, 1, 0, 1] ∧ OE g34 Try.f34 [0, 0, 1, 0, 1, 0, 1] ∧ OE g34 Try.f34 [0, 0, 1, 1, 0, 1, 0, 1] ∧ OE g34 Try.f34 [0, 1, 1, 0, 1, 1, 0, 1, 0, 1] ∧ OE g34 Try.f34 [0, 1, 1, 1, 1, 0, 1, 1, 0, 1, 0, 1] ∧ OE g34 Try.f34 [0, 1, 1, 1, 1, 1, 1, 0, 1, 1, 0, 1, 0, 1] ∧ OE g34 Try.f34 [0, 1, 1, 1, 1, 1, 1, 1, 1, 0, 1, 1, 0, 1, 0, 1] ∧ OE g34 Try.f34 [0, 1, 1, 1, 1, 1, 1, 1, 1, 1, 1, 0, 1, 1, 0, 1, 0, 1] ∧ OE g34 Try.f34 [0, 1, 1, 1, 1, 1, 1, 1, 1, 1, 1, 1, 1, 0, 1, 1, 0, 1, 0, 1] ∧ OE g34 Try.f34 [0, 1, 1, 1, 1, 1, 1, 1, 1, 1, 1, 1, 1, 1, 1, 0, 1, 1, 0, 1, 0, 1] ∧ OE g34 Try.f34 [1, 1, 1, 1, 1, 1, 1, 1, 1, 1, 1, 1, 1, 1, 1, 1, 0, 1, 1, 0, 1, 0, 1] ∧ OE g34 Try.f34 [0, 0, 1, 1, 1, 0, 1, 0, 1] ∧ OE g34 Try.f34 [0, 1, 1, 1, 1, 0, 1, 0, 1] ∧ OE g34 Try.f34 [0, 0, 1, 1, 1, 1, 1, 0, 1, 0, 1] ∧ OE g34 Try.f34 [0, 1, 1, 1, 1, 1, 1, 0, 1, 0, 1] ∧ OE g34 Try.f34 [0, 0, 1, 1, 1, 1, 1, 1, 1, 0, 1, 0, 1] ∧ OE g34 Try.f34 [0, 1, 1, 1, 1, 1, 1, 1, 1, 0, 1, 0, 1] ∧ OE g34 Try.f34 [0, 0, 1, 1, 1, 1, 1, 1, 1, 1, 1, 0, 1, 0, 1] ∧ OE g34 Try.f34 [0, 1, 1] := ⟨oe_eq _ _, oe_eq _ _, oe_eq _ _, oe_eq _ _, oe_eq _ _, oe_eq _ _, oe_eq _ _, oe_eq _ _, oe_eq _ _, oe_eq _ _, oe_eq _ _, oe_eq _ _, oe_eq _ _, oe_eq _ _, oe_eq _ _, oe_eq _ _, oe_eq _ _, oe_eq _ _, oe_eq _ _, oe_eq _ _, oe_eq _ _, oe_eq _ _, oe_eq _ _, oe_eq _ _, oe_eq _ _, oe_eq _ _⟩
theorem o35 : OE g35 Try.f35 [0] ∧ OE g35 Try.f35 [0, 0, 1] ∧ OE g35 Try.f35 [0, 0, 1, 0, 1] ∧ OE g35 Try.f35 [0, 0, 1, 0, 1, 0, 1] ∧ OE g35 Try.f35 [0, 1, 1, 0, 1, 0, 1] ∧ OE g35 Try.f35 [0, 0, 1, 1, 1, 0, 1, 0, 1] ∧ OE g35 Try.f35 [0, 0, 1, 1, 1, 1, 0, 1, 0, 1] ∧ OE g35 Try.f35 [0, 1, 1, 0, 1, 1, 1, 1, 0, 1, 0, 1] ∧ OE g35 Try.f35 [0, 1, 1, 1, 1, 0, 1, 1, 1, 1, 0, 1, 0, 1] ∧ OE g35 Try.f35 [0, 1, 1, 1, 1, 1, 1, 0, 1, 1, 1, 1, 0, 1, 0, 1] ∧ OE g35 Try.f35 [0, 1, 1, 1, 1, 1, 1, 1, 1, 0, 1, 1, 1, 1, 0, 1, 0, 1] ∧ OE g35 Try.f35 [0, 1, 1, 1, 1, 1, 1, 1, 1, 1, 1, 0, 1, 1, 1, 1, 0, 1, 0, 1] ∧ OE g35 Try.f35 [1, 1, 1, 1, 1, 1, 1, 1, 1, 1, 1, 1, 0, 1, 1, 1, 1, 0, 1, 0, 1] ∧ OE g35 Try.f35 [0, 0, 1, 1, 1, 1, 1, 0, 1, 0, 1] ∧ OE g35 Try.f35 [0, 1, 1, 1, 1, 1, 1, 0, 1, 0, 1] ∧ OE g35 Try.f35 [0, 0, 1, 1, 1, 1, 1, 1, 1, 0, 1, 0, 1] ∧ OE g35 Try.f35 [0, 1, 0, 1, 1, 1, 1, 1, 1, 1, 0, 1, 0, 1] ∧ OE g35 Try.f35 [0, 1, 1] := ⟨oe_eq _ _, oe_eq _ _, oe_eq _ _, oe_eq _ _, oe_eq _ _, oe_eq _ _, oe_eq _ _, oe_eq _ _, oe_eq _ _, oe_eq _ _, oe_eq _ _, oe_eq _ _, oe_eq _ _, oe_eq _ _, oe_eq _ _, oe_eq _ _, oe_eq _ _, oe_eq _ _⟩
theorem o36 : OE g36 Try.f36 [0] ∧ OE g36 Try.f36 [0, 1] ∧ OE g36 Try.f36 [0, 0, 1, 1] ∧ OE g36 Try.f36 [0, 0, 0, 0, 1, 0, 1, 1] ∧ OE g36 Try.f36 [0, 0, 1, 0, 0, 1, 0, 1, 1] ∧ OE g36 Try.f36 [1, 1, 0, 0, 1, 0, 1, 1] ∧ OE g36 Try.f36 [0, 1, 1, 1] := ⟨oe_eq _ _, oe_eq _ _, oe_eq _ _, oe_eq _ _, oe_eq _ _, oe_eq _ _, oe_eq _ _⟩
theorem o36_110100 : OE g36 Try.f36 [0, 0, 0, 0, 1, 0, 1, 1] ∧ OE g36 Try.f36 [0, 0, 1, 0, 0, 1, 0, 1, 1] ∧ OE g36 Try.f36 [1, 1, 0, 0, 1, 0, 1, 1] := ⟨oe_eq _ _, oe_eq _ _, oe_eq _ _⟩
theorem o37 : OE g37 Try.f37 [0] ∧ OE g37 Try.f37 [0, 0, 1] ∧ OE g37 Try.f37 [0, 0, 0, 1, 0, 1] ∧ OE g37 Try.f37 [0, 0, 0, 1, 1, 0, 0, 1, 0, 1] ∧ OE g37 Try.f37 [0, 1, 0, 0, 1, 1, 0, 0, 1, 0, 1] ∧ OE g37 Try.f37 [0, 0, 1, 1, 0, 0, 1, 1, 0, 0, 1, 0, 1] ∧ OE g37 Try.f37 [1, 1, 1, 0, 0, 1, 0, 1] ∧ OE g37 Try.f37 [0, 1, 1] := ⟨oe_eq _ _, oe_eq _ _, oe_eq _ _, oe_eq _ _, oe_eq _ _, oe_eq _ _, oe_eq _ _, oe_eq _ _⟩
theorem o37_10100 : OE g37 Try.f37 [0, 0, 0, 1, 0, 1] ∧ OE g37 Try.f37 [0, 0, 0, 1, 1, 0, 0, 1, 0, 1] ∧ OE g37 Try.f37 [0, 1, 0, 0, 1, 1, 0, 0, 1, 0, 1] ∧ OE g37 Try.f37 [0, 0, 1, 1, 0, 0, 1, 1, 0, 0, 1, 0, 1] ∧ OE g37 Try.f37 [1, 1, 1, 0, 0, 1, 0, 1] := ⟨oe_eq _ _, oe_eq _ _, oe_eq _ _, oe_eq _ _, oe_eq _ _⟩
theorem o38 : OE g38 Try.f38 [0] ∧ OE g38 Try.f38 [0, 1] := ⟨oe_eq _ _, oe_eq _ _⟩
theorem o39 : OE g39 Try.f39 [0] ∧ OE g39 Try.f39 [0, 1] := ⟨oe_eq _ _, oe_eq _ _⟩
theorem o4 : OE g4 Try.f4 [0] ∧ OE g4 Try.f4 [0, 1] ∧ OE g4 Try.f4 [0, 0, 1, 1] ∧ OE g4 Try.f4 [0, 0, 1, 0, 1, 1] ∧ OE g4 Try.f4 [0, 1, 1, 1] ∧ OE g4 Try.f4 [0, 0, 1, 1, 1, 1] ∧ OE g4 Try.f4 [0, 0, 1, 0, 1, 1, 1, 1] ∧ OE g4 Try.f4 [0, 1, 1, 1, 1, 1] := ⟨oe_eq _ _, oe_eq _ _, oe_eq _ _, oe_eq _ _, oe_eq _ _, oe_eq _ _, oe_eq _ _, oe_eq _ _⟩
theorem o40 : OE g40 Try.f40 [0] ∧ OE g40 Try.f40 [0, 0, 1] ∧ OE g40 Try.f40 [0, 0, 1, 0, 1] ∧ OE g40 Try.f40 [0, 1, 1] ∧ OE g40 Try.f40 [0, 1, 1, 1] ∧ OE g40 Try.f40 [0, 0, 1, 1, 1, 1] ∧ OE g40 Try.f40 [0, 0, 1, 0, 1, 1, 1, 1] ∧ OE g40 Try.f40 [0, 1, 1, 1, 1, 1] := ⟨oe_eq _ _, oe_eq _ _, oe_eq _ _, oe_eq _ _, oe_eq _ _, oe_eq _ _, oe_eq _ _, oe_eq _ _⟩
theorem o42 : OE g42 Try.f42 [0] ∧ OE g42 Try.f42 [0, 0, 1] ∧ OE g42 Try.f42 [0, 0, 0, 1, 0, 1] ∧ OE g42 Try.f42 [0, 1, 1, 0, 0, 1, 0, 1] ∧ OE g42 Try.f42 [0, 1, 1, 1, 1, 0, 0, 1, 0, 1] ∧ OE g42 Try.f42 [0, 1, 1, 1, 1, 1, 1, 0, 0, 1, 0, 1] ∧ OE g42 Try.f42 [0, 1, 1, 1, 1, 1, 1, 1, 1, 0, 0, 1, 0, 1] ∧ OE g42 Try.f42 [1, 1, 1, 1, 1, 1, 1, 1, 1, 1, 0, 0, 1, 0, 1] ∧ OE g42 Try.f42 [0, 0, 1, 0, 1, 0, 1] ∧ OE g42 Try.f42 [0, 0, 1, 1, 0, 1, 0, 1] ∧ OE g42 Try.f42 [0, 1, 1, 0, 1, 1, 0, 1, 0, 1] ∧ OE g42 Try.f42 [0, 1, 1, 1, 1, 0, 1, 1, 0, 1, 0, 1] ∧ OE g42 Try.f42 [0, 1, 1, 1, 1, 1, 1, 0, 1, 1, 0, 1, 0, 1] ∧ OE g42 Try.f42 [0, 1, 1, 1, 1, 1, 1, 1, 1, 0, 1, 1, 0, 1, 0, 1] ∧ OE g42 Try.f42 [0, 1, 1, 1, 1, 1, 1, 1, 1, 1, 1, 0, 1, 1, 0, 1, 0, 1] ∧ OE g42 Try.f42 [0, 1, 1, 1, 1, 1, 1, 1, 1, 1, 1, 1, 1, 0, 1, 1, 0, 1, 0, 1] ∧ OE g42 Try.f42 [0, 1, 1, 1, 1, 1, 1, 1, 1, 1, 1, 1, 1, 1, 1, 0, 1, 1, 0, 1, 0, 1] ∧ OE g42 Try.f42 [1, 1, 1, 1, 1, 1, 1, 1, 1, 1, 1, 1, 1, 1, 1, 1, 0, 1, 1, 0, 1, 0, 1] ∧ OE g42 Try.f42 [0, 0, 1, 1, 1, 0, 1, 0, 1] ∧ OE g42 Try.f42 [0, 1, 1, 1, 1, 0, 1, 0, 1] ∧ OE g42 Try.f42 [0, 0, 1, 1, 1, 1, 1, 0, 1, 0, 1] ∧ OE g42 Try.f42 [0, 1, 1] := ⟨oe_eq _ _, oe_eq _ _, oe_eq _ _, oe_eq _ _, oe_eq _ _, oe_eq _ _, oe_eq _ _, oe_eq _ _, oe_eq _ _, oe_eq _ _, oe_eq _ _, oe_eq _ _, oe_eq _ _, oe_eq _ _, oe_eq _ _, oe_eq _ _, oe_eq _ _, oe_eq _ _, oe_eq _ _, oe_eq _ _, oe_eq _ _, oe_eq _ _⟩
theorem o43 : OE g43 Try.f43 [0] ∧ OE g43 Try.f43 [0, 1] := ⟨oe_eq _ _, oe_eq _ _⟩
theorem o44 : OE g44 Try.f44 [0] ∧ OE g44 Try.f44 [0, 0, 1] ∧ OE g44 Try.f44 [0, 0, 1, 0, 1] ∧ OE g44 Try.f44 [0, 0, 1, 1] ∧ OE g44 Try.f44 [0, 0, 0, 0, 1, 0, 1, 1] ∧ OE g44 Try.f44 [0, 0, 0, 1, 0, 0, 1, 0, 1, 1] ∧ OE g44 Try.f44 [0, 0, 1, 0, 0, 1, 0, 0, 1, 0, 1, 1] ∧ OE g44 Try.f44 [1, 1, 0, 0, 1, 0, 1, 1] ∧ OE g44 Try.f44 [0, 1, 1, 1] := ⟨oe_eq _ _, oe_eq _ _, oe_eq _ _, oe_eq _ _, oe_eq _ _, oe_eq _ _, oe_eq _ _, oe_eq _ _, oe_eq _ _⟩
theorem o44_110100 : OE g44 Try.f44 [0, 0, 0, 0, 1, 0, 1, 1] ∧ OE g44 Try.f44 [0, 0, 0, 1, 0, 0, 1, 0, 1, 1] ∧ OE g44 Try.f44 [0, 0, 1, 0, 0, 1, 0, 0, 1, 0, 1, 1] ∧ OE g44 Try.f44 [1, 1, 0, 0, 1, 0, 1, 1] := ⟨oe_eq _ _, oe_eq _ _, oe_eq _ _, oe_eq _ _⟩
theorem o45 : OE g45 Try.f45 [0] ∧ OE g45 Try.f45 [0, 0, 1] ∧ OE g45 Try.f45 [0, 0, 0, 0, 1, 0, 1] ∧ OE g45 Try.f45 [0, 0, 0, 1, 0, 0, 1, 0, 1] ∧ OE g45 Try.f45 [0, 0, 1, 0, 0, 1, 0, 0, 1, 0, 1] ∧ OE g45 Try.f45 [1, 1, 0, 0, 1, 0, 1] ∧ OE g45 Try.f45 [0, 1, 1] := ⟨oe_eq _ _, oe_eq _ _, oe_eq _ _, oe_eq _ _, oe_eq _ _, oe_eq _ _, oe_eq _ _⟩
theorem o45_10100 : OE g45 Try.f45 [0, 0, 0, 0, 1, 0, 1] ∧ OE g45 Try.f45 [0, 0, 0, 1, 0, 0, 1, 0, 1] ∧ OE g45 Try.f45 [0, 0, 1, 0, 0, 1, 0, 0, 1, 0, 1] ∧ OE g45 Try.f45 [1, 1, 0, 0, 1, 0, 1] := ⟨oe_eq _ _, oe_eq _ _, oe_eq _ _, oe_eq _ _⟩
theorem o46 : OE g46 Try.f46 [0] ∧ OE g46 Try.f46 [0, 0, 1] ∧ OE g46 Try.f46 [0, 0, 0, 0, 1, 0, 1] ∧ OE g46 Try.f46 [0, 0, 0, 1, 0, 0, 1, 0, 1] ∧ OE g46 Try.f46 [0, 0, 1, 0, 0, 1, 0, 0, 1, 0, 1] ∧ OE g46 Try.f46 [1, 1, 0, 0, 1, 0, 1] ∧ OE g46 Try.f46 [0, 1, 1] := ⟨oe_eq _ _, oe_eq _ _, oe_eq _ _, oe_eq _ _, oe_eq _ _, oe_eq _ _, oe_eq _ _⟩
theorem o46_10100 : OE g46 Try.f46 [0, 0, 0, 0, 1, 0, 1] ∧ OE g46 Try.f46 [0, 0, 0, 1, 0, 0, 1, 0, 1] ∧ OE g46 Try.f46 [0, 0, 1, 0, 0, 1, 0, 0, 1, 0, 1] ∧ OE g46 Try.f46 [1, 1, 0, 0, 1, 0, 1] := ⟨oe_eq _ _, oe_eq _ _, oe_eq _ _, oe_eq _ _⟩
theorem o47 : OE g47 Try.f47 [0] ∧ OE g47 Try.f47 [0, 1] ∧ OE g47 Try.f47 [0, 0, 1, 1] ∧ OE g47 Try.f47 [0, 0, 0, 0, 1, 0, 1, 1] ∧ OE g47 Try.f47 [0, 0, 0, 1, 0, 0, 1, 0, 1, 1] ∧ OE g47 Try.f47 [0, 0, 1, 0, 0, 1, 0, 0, 1, 0, 1, 1] ∧ OE g47 Try.f47 [1, 1, 0, 0, 1, 0, 1, 1] ∧ OE g47 Try.f47 [0, 0, 1, 1, 1] ∧ OE g47 Try.f47 [0, 0, 0, 0, 1, 0, 1, 1, 1] ∧ OE g47 Try.f47 [0, 0, 0, 1, 0, 0, 1, 0, 1, 1, 1] ∧ OE g47 Try.f47 [0, 0, 1, 0, 0, 1, 0, 0, 1, 0, 1, 1, 1] ∧ OE g47 Try.f47 [1, 1, 0, 0, 1, 0, 1, 1, 1] ∧ OE g47 Try.f47 [0, 1, 1, 1, 1] := ⟨oe_eq _ _, oe_eq _ _, oe_eq _ _, oe_eq _ _, oe_eq _ _, oe_eq _ _, oe_eq _ _, oe_eq _ _, oe_eq _ _, oe_eq _ _, oe_eq _ _, oe_eq _ _, oe_eq _ _⟩
theorem o47_110100 : OE g47 Try.f47 [0, 0, 0, 0, 1, 0, 1, 1] ∧ OE g47 Try.f47 [0, 0, 0, 1, 0, 0, 1, 0, 1, 1] ∧ OE g47 Try.f47 [0, 0, 1, 0, 0, 1, 0, 0, 1, 0, 1, 1] ∧ OE g47 Try.f47 [1, 1, 0, 0, 1, 0, 1, 1] := ⟨oe_eq _ _, oe_eq _ _, oe_eq _ _, oe_eq _ _⟩
theorem o47_1110100 : OE g47 Try.f47 [0, 0, 0, 0, 1, 0, 1, 1, 1] ∧ OE g47 Try.f47 [0, 0, 0, 1, 0, 0, 1, 0, 1, 1, 1] ∧ OE g47 Try.f47 [0, 0, 1, 0, 0, 1, 0, 0, 1, 0, 1, 1, 1] ∧ OE g47 Try.f47 [1, 1, 0, 0, 1, 0, 1, 1, 1] := ⟨oe_eq _ _, oe_eq _ _, oe_eq _ _, oe_eq _ _⟩
theorem o48 : OE g48 Try.f48 [0] ∧ OE g48 Try.f48 [0, 0, 1] ∧ OE g48 Try.f48 [0, 0, 1, 0, 1] ∧ OE g48 Try.f48 [0, 1, 1] ∧ OE g48 Try.f48 [0, 1, 1, 1] ∧ OE g48 Try.f48 [0, 0, 1, 1, 1, 1] ∧ OE g48 Try.f48 [0, 0, 1, 0, 1, 1, 1, 1] ∧ OE g48 Try.f48 [0, 1, 1, 1, 1, 1] := ⟨oe_eq _ _, oe_eq _ _, oe_eq _ _, oe_eq _ _, oe_eq _ _, oe_eq _ _, oe_eq _ _, oe_eq _ _⟩
theorem o49 : OE g49 Try.f49 [0] ∧ OE g49 Try.f49 [0, 1] := ⟨oe_eq _ _, oe_eq _ _⟩
theorem o5 : OE g5 Try.f5 [0] ∧ OE g5 Try.f5 [0, 0, 1] ∧ OE g5 Try.f5 [0, 0, 1, 0, 1] ∧ OE g5 Try.f5 [0, 1, 1] ∧ OE g5 Try.f5 [0, 1, 1, 1] ∧ OE g5 Try.f5 [0, 0, 1, 1, 1, 1] ∧ OE g5 Try.f5 [0, 0, 0, 0, 1, 0, 1, 1, 1, 1] ∧ OE g5 Try.f5 [0, 0, 0, 1, 0, 0, 1, 0, 1, 1, 1, 1] ∧ OE g5 Try.f5 [0, 1, 0, 0, 1, 0, 0, 1, 0, 1, 1, 1, 1] ∧ OE g5 Try.f5 [1, 1, 0, 0, 1, 0, 1, 1, 1, 1] ∧ OE g5 Try.f5 [0, 1, 1, 1, 1, 1] := ⟨oe_eq _ _, oe_eq _ _, oe_eq _ _, oe_eq _ _, oe_eq _ _, oe_eq _ _, oe_eq _ _, oe_eq _ _, oe_eq _ _, oe_eq _ _, oe_eq _ _⟩
theorem o50 : OE g50 Try.f50 [0] ∧ OE g50 Try.f50 [0, 0, 1] ∧ OE g50 Try.f50 [0, 0, 0, 1, 0, 1] ∧ OE g50 Try.f50 [0, 0, 0, 1, 1, 0, 0, 1, 0, 1] ∧ OE g50 Try.f50 [0, 1, 0, 0, 1, 1, 0, 0, 1, 0, 1] ∧ OE g50 Try.f50 [0, 0, 1, 1, 0, 0, 1, 1, 0, 0, 1, 0, 1] ∧ OE g50 Try.f50 [1, 1, 1, 0, 0, 1, 0, 1] ∧ OE g50 Try.f50 [0, 1, 1] := ⟨oe_eq _ _, oe_eq _ _, oe_eq _ _, oe_eq _ _, oe_eq _ _, oe_eq _ _, oe_eq _ _, oe_eq _ _⟩
theorem o50_10100 : OE g50 Try.f50 [0, 0, 0, 1, 0, 1] ∧ OE g50 Try.f50 [0, 0, 0, 1, 1, 0, 0, 1, 0, 1] ∧ OE g50 Try.f50 [0, 1, 0, 0, 1, 1, 0, 0, 1, 0, 1] ∧ OE g50 Try.f50 [0, 0, 1, 1, 0, 0, 1, 1, 0, 0, 1, 0, 1] ∧ OE g50 Try.f50 [1, 1, 1, 0, 0, 1, 0, 1] := ⟨oe_eq _ _, oe_eq _ _, oe_eq _ _, oe_eq _ _, oe_eq _ _⟩
theorem o51 : OE g51 Try.f51 [0] ∧ OE g51 Try.f51 [0, 1] := ⟨oe_eq _ _, oe_eq _ _⟩
theorem o52 : OE g52 Try.f52 [0] ∧ OE g52 Try.f52 [0, 1] ∧ OE g52 Try.f52 [0, 0, 0, 0, 0, 1, 1] ∧ OE g52 Try.f52 [0, 0, 1, 0, 0, 0, 1, 1] ∧ OE g52 Try.f52 [1, 0, 1, 0, 0, 0, 1, 1] ∧ OE g52 Try.f52 [0, 1, 1, 1] := ⟨oe_eq _ _, oe_eq _ _, oe_eq _ _, oe_eq _ _, oe_eq _ _, oe_eq _ _⟩
theorem o52_11000 : OE g52 Try.f52 [0, 0, 0, 0, 0, 1, 1] ∧ OE g52 Try.f52 [0, 0, 1, 0, 0, 0, 1, 1] ∧ OE g52 Try.f52 [1, 0, 1, 0, 0, 0, 1, 1] := ⟨oe_eq _ _, oe_eq _ _, oe_eq _ _⟩
theorem o53 : OE g53 Try.f53 [0] ∧ OE g53 Try.f53 [0, 0, 1] ∧ OE g53 Try.f53 [0, 0, 0, 1, 0, 1] ∧ OE g53 Try.f53 [0, 0, 0, 1, 1, 0, 0, 1, 0, 1] ∧ OE g53 Try.f53 [0, 1, 0, 0, 1, 1, 0, 0, 1, 0, 1] ∧ OE g53 Try.f53 [0, 0, 1, 1, 0, 0, 1, 1, 0, 0, 1, 0, 1] ∧ OE g53 Try.f53 [1, 1, 1, 0, 0, 1, 0, 1] ∧ OE g53 Try.f53 [0, 1, 1] := ⟨oe_eq _ _, oe_eq _ _, oe_eq _ _, oe_eq _ _, oe_eq _ _, oe_eq _ _, oe_eq _ _, oe_eq _ _⟩
theorem o53_10100 : OE g53 Try.f53 [0, 0, 0, 1, 0, 1] ∧ OE g53 Try.f53 [0, 0, 0, 1, 1, 0, 0, 1, 0, 1] ∧ OE g53 Try.f53 [0, 1, 0, 0, 1, 1, 0, 0, 1, 0, 1] ∧ OE g53 Try.f53 [0, 0, 1, 1, 0, 0, 1, 1, 0, 0, 1, 0, 1] ∧ OE g53 Try.f53 [1, 1, 1, 0, 0, 1, 0, 1] := ⟨oe_eq _ _, oe_eq _ _, oe_eq _ _, oe_eq _ _, oe_eq _ _⟩
theorem o55 : OE g55 Try.f55 [0] ∧ OE g55 Try.f55 [0, 1] := ⟨oe_eq _ _, oe_eq _ _⟩
theorem o56 : OE g56 Try.f56 [0] ∧ OE g56 Try.f56 [0, 1] ∧ OE g56 Try.f56 [0, 0, 0, 0, 0, 1, 1] ∧ OE g56 Try.f56 [0, 0, 1, 0, 0, 0, 1, 1] ∧ OE g56 Try.f56 [0, 1, 0, 1, 0, 0, 0, 1, 1] ∧ OE g56 Try.f56 [1, 1, 0, 1, 0, 0, 0, 1, 1] ∧ OE g56 Try.f56 [0, 1, 1, 1] := ⟨oe_eq _ _, oe_eq _ _, oe_eq _ _, oe_eq _ _, oe_eq _ _, oe_eq _ _, oe_eq _ _⟩
theorem o56_11000 : OE g56 Try.f56 [0, 0, 0, 0, 0, 1, 1] ∧ OE g56 Try.f56 [0, 0, 1, 0, 0, 0, 1, 1] ∧ OE g56 Try.f56 [0, 1, 0, 1, 0, 0, 0, 1, 1] ∧ OE g56 Try.f56 [1, 1, 0, 1, 0, 0, 0, 1, 1] := ⟨oe_eq _ _, oe_eq _ _, oe_eq _ _, oe_eq _ _⟩
theorem o57 : OE g57 Try.f57 [0] ∧ OE g57 Try.f57 [0, 1] := ⟨oe_eq _ _, oe_eq _ _⟩
theorem o58 : OE g58 Try.f58 [0] ∧ OE g58 Try.f58 [0, 1] := ⟨oe_eq _ _, oe_eq _ _⟩
theorem o59 : OE g59 Try.f59 [0] ∧ OE g59 Try.f59 [0, 0, 1] ∧ OE g59 Try.f59 [0, 0, 1, 0, 1] ∧ OE g59 Try.f59 [0, 1, 1] ∧ OE g59 Try.f59 [0, 0, 0, 0, 0, 1, 1, 1] ∧ OE g59 Try.f59 [0, 0, 1, 0, 0, 0, 1, 1, 1] ∧ OE g59 Try.f59 [1, 0, 1, 0, 0, 0, 1, 1, 1] ∧ OE g59 Try.f59 [0, 1, 1, 1, 1] := ⟨oe_eq _ _, oe_eq _ _, oe_eq _ _, oe_eq _ _, oe_eq _ _, oe_eq _ _, oe_eq _ _, oe_eq _ _⟩
theorem o59_111000 : OE g59 Try.f59 [0, 0, 0, 0, 0, 1, 1, 1] ∧ OE g59 Try.f59 [0, 0, 1, 0, 0, 0, 1, 1, 1] ∧ OE g59 Try.f59 [1, 0, 1, 0, 0, 0, 1, 1, 1] := ⟨oe_eq _ _, oe_eq _ _, oe_eq _ _⟩
theorem o5_11110100 : OE g5 Try.f5 [0, 0, 0, 0, 1, 0, 1, 1, 1, 1] ∧ OE g5 Try.f5 [0, 0, 0, 1, 0, 0, 1, 0, 1, 1, 1, 1] ∧ OE g5 Try.f5 [0, 1, 0, 0, 1, 0, 0, 1, 0, 1, 1, 1, 1] ∧ OE g5 Try.f5 [1, 1, 0, 0, 1, 0, 1, 1, 1, 1] := ⟨oe_eq _ _, oe_eq _ _, oe_eq _ _, oe_eq _ _⟩
theorem o6 : OE g6 Try.f6 [0] ∧ OE g6 Try.f6 [0, 1] ∧ OE g6 Try.f6 [0, 1, 1] ∧ OE g6 Try.f6 [0, 1, 1, 1] ∧ OE g6 Try.f6 [0, 1, 1, 1, 1] := ⟨oe_eq _ _, oe_eq _ _, oe_eq _ _, oe_eq _ _, oe_eq _ _⟩
theorem o60 : OE g60 Try.f60 [0] ∧ OE g60 Try.f60 [0, 1] ∧ OE g60 Try.f60 [0, 0, 1, 1] ∧ OE g60 Try.f60 [0, 1, 0, 1, 1] ∧ OE g60 Try.f60 [0, 1, 1, 1] := ⟨oe_eq _ _, oe_eq _ _, oe_eq _ _, oe_eq _ _, oe_eq _ _⟩
theorem o61 : OE g61 Try.f61 [0] ∧ OE g61 Try.f61 [0, 1] ∧ OE g61 Try.f61 [0, 1, 1] := ⟨oe_eq _ _, oe_eq _ _, oe_eq _ _⟩
theorem o62 : OE g62 Try.f62 [0] ∧ OE g62 Try.f62 [0, 1] ∧ OE g62 Try.f62 [0, 0, 1, 1] ∧ OE g62 Try.f62 [0, 0, 0, 1, 0, 1, 1] ∧ OE g62 Try.f62 [1, 1, 0, 0, 1, 0, 1, 1] ∧ OE g62 Try.f62 [0, 1, 0, 1, 0, 1, 1] ∧ OE g62 Try.f62 [0, 0, 1, 1, 0, 1, 0, 1, 1] ∧ OE g62 Try.f62 [0, 1, 1, 0, 1, 1, 0, 1, 0, 1, 1] ∧ OE g62 Try.f62 [1, 1, 1, 1, 0, 1, 1, 0, 1, 0, 1, 1] ∧ OE g62 Try.f62 [0, 1, 1, 1, 0, 1, 0, 1, 1] ∧ OE g62 Try.f62 [0, 1, 1, 1] ∧ OE g62 Try.f62 [0, 0, 1, 1, 1, 1] ∧ OE g62 Try.f62 [0, 0, 1, 0, 1, 1, 1, 1] ∧ OE g62 Try.f62 [0, 1, 0, 1, 0, 1, 1, 1, 1] ∧ OE g62 Try.f62 [0, 0, 1, 1, 0, 1, 0, 1, 1, 1, 1] ∧ OE g62 Try.f62 [1, 1, 0, 1, 1, 0, 1, 0, 1, 1, 1, 1] ∧ OE g62 Try.f62 [0, 1, 1, 1, 0, 1, 0, 1, 1, 1, 1] ∧ OE g62 Try.f62 [0, 1, 1, 1, 1, 1] := ⟨oe_eq _ _, oe_eq _ _, oe_eq _ _, oe_eq _ _, oe_eq _ _, oe_eq _ _, oe_eq _ _, oe_eq _ _, oe_eq _ _, oe_eq _ _, oe_eq _ _, oe_eq _ _, oe_eq _ _, oe_eq _ _, oe_eq _ _, oe_eq _ _, oe_eq _ _, oe_eq _ _⟩
theorem o67 : OE g67 Try.f67 [0] ∧ OE g67 Try.f67 [0, 0, 1] ∧ OE g67 Try.f67 [0, 0, 1, 0, 1] ∧ OE g67 Try.f67 [0, 1, 1] ∧ OE g67 Try.f67 [0, 0, 0, 0, 0, 1, 1, 1] ∧ OE g67 Try.f67 [0, 0, 1, 0, 0, 0, 1, 1, 1] ∧ OE g67 Try.f67 [1, 0, 1, 0, 0, 0, 1, 1, 1] ∧ OE g67 Try.f67 [0, 1, 1, 1, 1] := ⟨oe_eq _ _, oe_eq _ _, oe_eq _ _, oe_eq _ _, oe_eq _ _, oe_eq _ _, oe_eq _ _, oe_eq _ _⟩
theorem o67_111000 : OE g67 Try.f67 [0, 0, 0, 0, 0, 1, 1, 1] ∧ OE g67 Try.f67 [0, 0, 1, 0, 0, 0, 1, 1, 1] ∧ OE g67 Try.f67 [1, 0, 1, 0, 0, 0, 1, 1, 1] := ⟨oe_eq _ _, oe_eq _ _, oe_eq _ _⟩
theorem o68 : OE g68 Try.f68 [0] ∧ OE g68 Try.f68 [0, 1] := ⟨oe_eq _ _, oe_eq _ _⟩
theorem o69 : OE g69 Try.f69 [0] ∧ OE g69 Try.f69 [0, 1] ∧ OE g69 Try.f69 [0, 0, 1, 1] ∧ OE g69 Try.f69 [0, 1, 0, 1, 1] ∧ OE g69 Try.f69 [0, 1, 1, 1] := ⟨oe_eq _ _, oe_eq _ _, oe_eq _ _, oe_eq _ _, oe_eq _ _⟩
theorem o7 : OE g7 Try.f7 [0] ∧ OE g7 Try.f7 [0, 0, 1] ∧ OE g7 Try.f7 [0, 0, 1, 0, 1] ∧ OE g7 Try.f7 [0, 1, 1] ∧ OE g7 Try.f7 [0, 0, 1, 1, 1] ∧ OE g7 Try.f7 [0, 0, 0, 1, 0, 1, 1, 1] ∧ OE g7 Try.f7 [0, 0, 0, 1, 1, 0, 0, 1, 0, 1, 1, 1] ∧ OE g7 Try.f7 [1, 0, 0, 1, 1, 0, 0, 1, 0, 1, 1, 1] ∧ OE g7 Try.f7 [1, 1, 1, 0, 0, 1, 0, 1, 1, 1] ∧ OE g7 Try.f7 [0, 1, 1, 1, 1] := ⟨oe_eq _ _, oe_eq _ _, oe_eq _ _, oe_eq _ _, oe_eq _ _, oe_eq _ _, oe_eq _ _, oe_eq _ _, oe_eq _ _, oe_eq _ _⟩
theorem o70 : OE g70 Try.f70 [0] ∧ OE g70 Try.f70 [0, 0, 1] ∧ OE g70 Try.f70 [0, 0, 0, 1, 0, 1] ∧ OE g70 Try.f70 [0, 0, 0, 1, 1, 0, 0, 1, 0, 1] ∧ OE g70 Try.f70 [0, 1, 0, 0, 1, 1, 0, 0, 1, 0, 1] ∧ OE g70 Try.f70 [0, 0, 1, 1, 0, 0, 1, 1, 0, 0, 1, 0, 1] ∧ OE g70 Try.f70 [1, 1, 1, 0, 0, 1, 0, 1] ∧ OE g70 Try.f70 [0, 1, 1] := ⟨oe_eq _ _, oe_eq _ _, oe_eq _ _, oe_eq _ _, oe_eq _ _, oe_eq _ _, oe_eq _ _, oe_eq _ _⟩
theorem o70_10100 : OE g70 Try.f70 [0, 0, 0, 1, 0, 1] ∧ OE g70 Try.f70 [0, 0, 0, 1, 1, 0, 0, 1, 0, 1] ∧ OE g70 Try.f70 [0, 1, 0, 0, 1, 1, 0, 0, 1, 0, 1] ∧ OE g70 Try.f70 [0, 0, 1, 1, 0, 0, 1, 1, 0, 0, 1, 0, 1] ∧ OE g70 Try.f70 [1, 1, 1, 0, 0, 1, 0, 1] := ⟨oe_eq _ _, oe_eq _ _, oe_eq _ _, oe_eq _ _, oe_eq _ _⟩
theorem o71 : OE g71 Try.f71 [0] ∧ OE g71 Try.f71 [0, 1] := ⟨oe_eq _ _, oe_eq _ _⟩
theorem o72 : OE g72 Try.f72 [0] ∧ OE g72 Try.f72 [0, 1] ∧ OE g72 Try.f72 [0, 0, 0, 0, 0, 1, 1] ∧ OE g72 Try.f72 [0, 0, 0, 1, 0, 0, 0, 1, 1] ∧ OE g72 Try.f72 [0, 1, 0, 0, 1, 0, 0, 0, 1, 1] ∧ OE g72 Try.f72 [0, 1, 1, 0, 0, 1, 0, 0, 0, 1, 1] ∧ OE g72 Try.f72 [0, 1, 1, 1, 0, 0, 1, 0, 0, 0, 1, 1] ∧ OE g72 Try.f72 [0, 1, 1, 1, 1, 0, 0, 1, 0, 0, 0, 1, 1] ∧ OE g72 Try.f72 [0, 1, 1, 1, 1, 1, 0, 0, 1, 0, 0, 0, 1, 1] ∧ OE g72 Try.f72 [0, 1, 1, 1, 1, 1, 1, 0, 0, 1, 0, 0, 0, 1, 1] ∧ OE g72 Try.f72 [0, 1, 1, 1] := ⟨oe_eq _ _, oe_eq _ _, oe_eq _ _, oe_eq _ _, oe_eq _ _, oe_eq _ _, oe_eq _ _, oe_eq _ _, oe_eq _ _, oe_eq _ _, oe_eq _ _⟩
theorem o72_11000 : OE g72 Try.f72 [0, 0, 0, 0, 0, 1, 1] ∧ OE g72 Try.f72 [0, 0, 0, 1, 0, 0, 0, 1, 1] ∧ OE g72 Try.f72 [0, 1, 0, 0, 1, 0, 0, 0, 1, 1] ∧ OE g72 Try.f72 [0, 1, 1, 0, 0, 1, 0, 0, 0, 1, 1] ∧ OE g72 Try.f72 [0, 1, 1, 1, 0, 0, 1, 0, 0, 0, 1, 1] ∧ OE g72 Try.f72 [0, 1, 1, 1, 1, 0, 0, 1, 0, 0, 0, 1, 1] ∧ OE g72 Try.f72 [0, 1, 1, 1, 1, 1, 0, 0, 1, 0, 0, 0, 1, 1] ∧ OE g72 Try.f72 [0, 1, 1, 1, 1, 1, 1, 0, 0, 1, 0, 0, 0, 1, 1] := ⟨oe_eq _ _, oe_eq _ _, oe_eq _ _, oe_eq _ _, oe_eq _ _, oe_eq _ _, oe_eq _ _, oe_eq _ _⟩
theorem o73 : OE g73 Try.f73 [0] ∧ OE g73 Try.f73 [0, 1] := ⟨oe_eq _ _, oe_eq _ _⟩
theorem o74 : OE g74 Try.f74 [0] ∧ OE g74 Try.f74 [0, 1] := ⟨oe_eq _ _, oe_eq _ _⟩
theorem o78 : OE g78 Try.f78 [0] ∧ OE g78 Try.f78 [0, 1] ∧ OE g78 Try.f78 [0, 0, 0, 0, 0, 1, 1] ∧ OE g78 Try.f78 [0, 0, 1, 0, 0, 0, 1, 1] ∧ OE g78 Try.f78 [0, 0, 1, 0, 1, 0, 0, 0, 1, 1] ∧ OE g78 Try.f78 [0, 1, 0, 1, 0, 1, 0, 0, 0, 1, 1] ∧ OE g78 Try.f78 [0, 0, 1, 1, 0, 1, 0, 0, 0, 1, 1] ∧ OE g78 Try.f78 [0, 1, 0, 1, 1, 0, 1, 0, 0, 0, 1, 1] ∧ OE g78 Try.f78 [0, 1, 1, 1, 0, 1, 0, 0, 0, 1, 1] ∧ OE g78 Try.f78 [1, 1, 1, 1, 0, 1, 0, 0, 0, 1, 1] ∧ OE g78 Try.f78 [0, 1, 1, 1] := ⟨oe_eq _ _, oe_eq _ _, oe_eq _ _, oe_eq _ _, oe_eq _ _, oe_eq _ _, oe_eq _ _, oe_eq _ _, oe_eq _ _, oe_eq _ _, oe_eq _ _⟩
theorem o78_11000 : OE g78 Try.f78 [0, 0, 0, 0, 0, 1, 1] ∧ OE g78 Try.f78 [0, 0, 1, 0, 0, 0, 1, 1] ∧ OE g78 Try.f78 [0, 0, 1, 0, 1, 0, 0, 0, 1, 1] ∧ OE g78 Try.f78 [0, 1, 0, 1, 0, 1, 0, 0, 0, 1, 1] ∧ OE g78 Try.f78 [0, 0, 1, 1, 0, 1, 0, 0, 0, 1, 1] ∧ OE g78 Try.f78 [0, 1, 0, 1, 1, 0, 1, 0, 0, 0, 1, 1] ∧ OE g78 Try.f78 [0, 1, 1, 1, 0, 1, 0, 0, 0, 1, 1] ∧ OE g78 Try.f78 [1, 1, 1, 1, 0, 1, 0, 0, 0, 1, 1] := ⟨oe_eq _ _, oe_eq _ _, oe_eq _ _, oe_eq _ _, oe_eq _ _, oe_eq _ _, oe_eq _ _, oe_eq _ _⟩
theorem o79 : OE g79 Try.f79 [0] ∧ OE g79 Try.f79 [0, 0, 0, 1] ∧ OE g79 Try.f79 [0, 0, 1, 0, 0, 1] ∧ OE g79 Try.f79 [0, 1, 1, 0, 0, 1] ∧ OE g79 Try.f79 [0, 0, 1, 1, 1, 0, 0, 1] ∧ OE g79 Try.f79 [0, 1, 1, 1, 1, 0, 0, 1] ∧ OE g79 Try.f79 [0, 0, 1, 1, 1, 1, 1, 0, 0, 1] ∧ OE g79 Try.f79 [0, 1, 1, 1, 1, 1, 1, 0, 0, 1] ∧ OE g79 Try.f79 [0, 0, 1, 1, 1, 1, 1, 1, 1, 0, 0, 1] ∧ OE g79 Try.f79 [0, 1, 1, 1, 1, 1, 1, 1, 1, 0, 0, 1] ∧ OE g79 Try.f79 [0, 0, 1, 1, 1, 1, 1, 1, 1, 1, 1, 0, 0, 1] ∧ OE g79 Try.f79 [0, 1, 1] := ⟨oe_eq _ _, oe_eq _ _, oe_eq _ _, oe_eq _ _, oe_eq _ _, oe_eq _ _, oe_eq _ _, oe_eq _ _, oe_eq _ _, oe_eq _ _, oe_eq _ _, oe_eq _ _⟩
theorem o7_1110100 : OE g7 Try.f7 [0, 0, 0, 1, 0, 1, 1, 1] ∧ OE g7 Try.f7 [0, 0, 0, 1, 1, 0, 0, 1, 0, 1, 1, 1] ∧ OE g7 Try.f7 [1, 0, 0, 1, 1, 0, 0, 1, 0, 1, 1, 1] ∧ OE g7 Try.f7 [1, 1, 1, 0, 0, 1, 0, 1, 1, 1] := ⟨oe_eq _ _, oe_eq _ _, oe_eq _ _, oe_eq _ _⟩
theorem o8 : OE g8 Try.f8 [0] ∧ OE g8 Try.f8 [0, 0, 1] ∧ OE g8 Try.f8 [0, 0, 1, 0, 1] ∧ OE g8 Try.f8 [0, 0, 1, 1] ∧ OE g8 Try.f8 [0, 0, 1, 0, 1, 1] ∧ OE g8 Try.f8 [0, 1, 1, 1] := ⟨oe_eq _ _, oe_eq _ _, oe_eq _ _, oe_eq _ _, oe_eq _ _, oe_eq _ _⟩
theorem o81 : OE g81 Try.f81 [0] ∧ OE g81 Try.f81 [0, 0, 1] ∧ OE g81 Try.f81 [0, 0, 1, 0, 1] ∧ OE g81 Try.f81 [0, 1, 0, 1, 0, 1] ∧ OE g81 Try.f81 [0, 1, 1] ∧ OE g81 Try.f81 [0, 0, 1, 1, 1] ∧ OE g81 Try.f81 [0, 0, 1, 0, 1, 1, 1] ∧ OE g81 Try.f81 [0, 0, 1, 0, 1, 0, 1, 1, 1] ∧ OE g81 Try.f81 [0, 1, 0, 1, 0, 1, 0, 1, 1, 1] ∧ OE g81 Try.f81 [0, 1, 1, 0, 1, 0, 1, 1, 1] ∧ OE g81 Try.f81 [0, 0, 1, 1, 1, 0, 1, 0, 1, 1, 1] ∧ OE g81 Try.f81 [0, 1, 0, 1, 1, 1, 0, 1, 0, 1, 1, 1] ∧ OE g81 Try.f81 [0, 1, 1, 1, 1, 0, 1, 0, 1, 1, 1] ∧ OE g81 Try.f81 [0, 0, 1, 1, 1, 1, 1, 0, 1, 0, 1, 1, 1] ∧ OE g81 Try.f81 [0, 1, 0, 1, 1, 1, 1, 1, 0, 1, 0, 1, 1, 1] ∧ OE g81 Try.f81 [0, 1, 1, 1, 1, 1, 1, 0, 1, 0, 1, 1, 1] ∧ OE g81 Try.f81 [0, 0, 1, 1, 1, 1, 1, 1, 1, 0, 1, 0, 1, 1, 1] ∧ OE g81 Try.f81 [0, 1, 1, 1, 1, 1, 1, 1, 1, 0, 1, 0, 1, 1, 1] ∧ OE g81 Try.f81 [0, 0, 1, 1, 1, 1, 1, 1, 1, 1, 1, 0, 1, 0, 1, 1, 1] ∧ OE g81 Try.f81 [0, 1, 0, 1, 1, 1, 1, 1, 1, 1, 1, 1, 0, 1, 0, 1, 1, 1] ∧ OE g81 Try.f81 [0, 0, 1, 1, 0, 1, 1, 1, 1, 1, 1, 1, 1, 1, 0, 1, 0, 1, 1, 1] ∧ OE g81 Try.f81 [0, 0, 1, 0, 1, 1, 0, 1, 1, 1, 1, 1, 1, 1, 1, 1, 0, 1, 0, 1, 1, 1] ∧ OE g81 Try.f81 [0, 1, 0, 1, 0, 1, 1, 0, 1, 1, 1, 1, 1, 1, 1, 1, 1, 0, 1, 0, 1, 1, 1] ∧ OE g81 Try.f81 [0, 1, 1, 1, 0, 1, 1, 1, 1, 1, 1, 1, 1, 1, 0, 1, 0, 1, 1, 1] ∧ OE g81 Try.f81 [0, 1, 1, 1, 1, 0, 1, 1, 1, 1, 1, 1, 1, 1, 1, 0, 1, 0, 1, 1, 1] ∧ OE g81 Try.f81 [0, 1, 1, 1, 1, 1, 1, 1, 1, 1, 1, 0, 1, 0, 1, 1, 1] ∧ OE g81 Try.f81 [0, 0, 1, 1, 1, 1, 1, 1, 1, 1, 1, 1, 1, 0, 1, 0, 1, 1, 1] ∧ OE g81 Try.f81 [0, 0, 1, 0, 1, 1, 1, 1, 1, 1, 1, 1, 1, 1, 1, 0, 1, 0, 1, 1, 1] ∧ OE g81 Try.f81 [0, 0, 1, 0, 1, 0, 1, 1, 1, 1, 1, 1, 1, 1, 1, 1, 1, 0, 1, 0, 1, 1, 1] ∧ OE g81 Try.f81 [0, 1, 0, 1, 0, 1, 0, 1, 1, 1, 1, 1, 1, 1, 1, 1, 1, 1, 0, 1, 0, 1, 1, 1] ∧ OE g81 Try.f81 [1, 1, 0, 1, 1, 1, 1, 1, 1, 1, 1, 1, 1, 1, 0, 1, 0, 1, 1, 1] ∧ OE g81 Try.f81 [0, 1, 1, 1, 1, 1, 1, 1, 1, 1, 1, 1, 1, 0, 1, 0, 1, 1, 1] ∧ OE g81 Try.f81 [0, 0, 1, 1, 1, 1, 1, 1, 1, 1, 1, 1, 1, 1, 1, 0, 1, 0, 1, 1, 1] ∧ OE g81 Try.f81 [0, 1, 0, 1, 1, 1, 1, 1, 1, 1, 1, 1, 1, 1, 1, 1, 0, 1, 0, 1, 1, 1] ∧ OE g81 Try.f81 [0, 1, 1, 1, 1] ∧ OE g81 Try.f81 [0, 1, 1, 1, 1, 1] := ⟨oe_eq _ _, oe_eq _ _, oe_eq _ _, oe_eq _ _, oe_eq _ _, oe_eq _ _, oe_eq _ _, oe_eq _ _, oe_eq _ _, oe_eq _ _, oe_eq _ _, oe_eq _ _, oe_eq _ _, oe_eq _ _, oe_eq _ _, oe_eq _ _, oe_eq _ _, oe_eq _ _, oe_eq _ _, oe_eq _ _, oe_eq _ _, oe_eq _ _, oe_eq _ _, oe_eq _ _, oe_eq _ _, oe_eq _ _, oe_eq _ _, oe_eq _ _, oe_eq _ _, oe_eq _ _, oe_eq _ _, oe_eq _ _, oe_eq _ _, oe_eq _ _, oe_eq _ _, oe_eq _ _⟩
theorem o82 : OE g82 Try.f82 [0] ∧ OE g82 Try.f82 [0, 1] ∧ OE g82 Try.f82 [0, 1, 1] ∧ OE g82 Try.f82 [0, 0, 1, 1, 1] ∧ OE g82 Try.f82 [0, 1, 0, 1, 1, 1] ∧ OE g82 Try.f82 [0, 1, 1, 1, 1] ∧ OE g82 Try.f82 [0, 0, 1, 1, 1, 1, 1] ∧ OE g82 Try.f82 [0, 0, 1, 0, 1, 1, 1, 1, 1] ∧ OE g82 Try.f82 [0, 1, 0, 1, 0, 1, 1, 1, 1, 1] ∧ OE g82 Try.f82 [0, 1, 1, 1, 1, 1, 1] ∧ OE g82 Try.f82 [0, 1, 1, 1, 1, 1, 1, 1] := ⟨oe_eq _ _, oe_eq _ _, oe_eq _ _, oe_eq _ _, oe_eq _ _, oe_eq _ _, oe_eq _ _, oe_eq _ _, oe_eq _ _, oe_eq _ _, oe_eq _ _⟩
theorem o83 : OE g83 Try.f83 [0] ∧ OE g83 Try.f83 [0, 1] ∧ OE g83 Try.f83 [0, 0, 1, 1] ∧ OE g83 Try.f83 [0, 1, 0, 1, 1] ∧ OE g83 Try.f83 [0, 1, 1, 1] := ⟨oe_eq _ _, oe_eq _ _, oe_eq _ _, oe_eq _ _, oe_eq _ _⟩
theorem o84 : OE g84 Try.f84 [0] ∧ OE g84 Try.f84 [0, 1] ∧ OE g84 Try.f84 [0, 0, 1, 1] ∧ OE g84 Try.f84 [0, 0, 1, 0, 1, 1] ∧ OE g84 Try.f84 [0, 1, 0, 1, 0, 1, 1] ∧ OE g84 Try.f84 [0, 1, 1, 1] ∧ OE g84 Try.f84 [0, 1, 1, 1, 1] ∧ OE g84 Try.f84 [0, 1, 1, 1, 1, 1] := ⟨oe_eq _ _, oe_eq _ _, oe_eq _ _, oe_eq _ _, oe_eq _ _, oe_eq _ _, oe_eq _ _, oe_eq _ _⟩
theorem o86 : OE g86 Try.f86 [0] ∧ OE g86 Try.f86 [0, 1] ∧ OE g86 Try.f86 [0, 1, 1] ∧ OE g86 Try.f86 [0, 0, 1, 1, 1] ∧ OE g86 Try.f86 [0, 0, 1, 0, 1, 1, 1] ∧ OE g86 Try.f86 [1, 0, 1, 0, 1, 1, 1] ∧ OE g86 Try.f86 [0, 1, 1, 1, 1] ∧ OE g86 Try.f86 [0, 0, 0, 0, 0, 1, 1, 1, 1, 1] ∧ OE g86 Try.f86 [0, 1, 0, 0, 0, 1, 1, 1, 1, 1] ∧ OE g86 Try.f86 [0, 0, 1, 1, 1, 1, 1, 1] ∧ OE g86 Try.f86 [0, 0, 1, 0, 1, 1, 1, 1, 1, 1] ∧ OE g86 Try.f86 [0, 1, 0, 1, 0, 1, 1, 1, 1, 1, 1] ∧ OE g86 Try.f86 [0, 1, 1, 1, 1, 1, 1, 1] ∧ OE g86 Try.f86 [0, 1, 1, 1, 1, 1, 1, 1, 1] ∧ OE g86 Try.f86 [0, 1, 1, 1, 1, 1, 1, 1, 1, 1] := ⟨oe_eq _ _, oe_eq _ _, oe_eq _ _, oe_eq _ _, oe_eq _ _, oe_eq _ _, oe_eq _ _, oe_eq _ _, oe_eq _ _, oe_eq _ _, oe_eq _ _, oe_eq _ _, oe_eq _ _, oe_eq _ _, oe_eq _ _⟩
theorem o86_11111000 : OE g86 Try.f86 [0, 0, 0, 0, 0, 1, 1, 1, 1, 1] ∧ OE g86 Try.f86 [0, 1, 0, 0, 0, 1, 1, 1, 1, 1] := ⟨oe_eq _ _, oe_eq _ _⟩
theorem o87 : OE g87 Try.f87 [0] ∧ OE g87 Try.f87 [0, 1] ∧ OE g87 Try.f87 [0, 0, 1, 1] ∧ OE g87 Try.f87 [0, 0, 0, 0, 1, 0, 1, 1] ∧ OE g87 Try.f87 [0, 0, 0, 1, 0, 0, 1, 0, 1, 1] ∧ OE g87 Try.f87 [0, 0, 1, 0, 0, 1, 0, 0, 1, 0, 1, 1] ∧ OE g87 Try.f87 [1, 1, 0, 0, 1, 0, 1, 1] ∧ OE g87 Try.f87 [0, 1, 1, 1] := ⟨oe_eq _ _, oe_eq _ _, oe_eq _ _, oe_eq _ _, oe_eq _ _, oe_eq _ _, oe_eq _ _, oe_eq _ _⟩
theorem o87_110100 : OE g87 Try.f87 [0, 0, 0, 0, 1, 0, 1, 1] ∧ OE g87 Try.f87 [0, 0, 0, 1, 0, 0, 1, 0, 1, 1] ∧ OE g87 Try.f87 [0, 0, 1, 0, 0, 1, 0, 0, 1, 0, 1, 1] ∧ OE g87 Try.f87 [1, 1, 0, 0, 1, 0, 1, 1] := ⟨oe_eq _ _, oe_eq _ _, oe_eq _ _, oe_eq _ _⟩
theorem o88 : OE g88 Try.f88 [0] ∧ OE g88 Try.f88 [0, 1] := ⟨oe_eq _ _, oe_eq _ _⟩
theorem o89 : OE g89 Try.f89 [0] ∧ OE g89 Try.f89 [0, 0, 1] ∧ OE g89 Try.f89 [0, 1, 0, 1] ∧ OE g89 Try.f89 [0, 0, 1, 1, 0, 1] ∧ OE g89 Try.f89 [0, 1, 1] := ⟨oe_eq _ _, oe_eq _ _, oe_eq _ _, oe_eq _ _, oe_eq _ _⟩
theorem o9 : OE g9 Try.f9 [0] ∧ OE g9 Try.f9 [0, 1] ∧ OE g9 Try.f9 [0, 0, 1, 1] ∧ OE g9 Try.f9 [0, 0, 1, 0, 1, 1] ∧ OE g9 Try.f9 [0, 0, 1, 1, 1] ∧ OE g9 Try.f9 [0, 0, 0, 0, 1, 0, 1, 1, 1] ∧ OE g9 Try.f9 [0, 0, 0, 1, 0, 0, 1, 0, 1, 1, 1] ∧ OE g9 Try.f9 [0, 1, 0, 0, 1, 0, 0, 1, 0, 1, 1, 1] ∧ OE g9 Try.f9 [0, 0, 1, 1, 0, 0, 1, 0, 0, 1, 0, 1, 1, 1] ∧ OE g9 Try.f9 [1, 1, 0, 0, 1, 0, 1, 1, 1] ∧ OE g9 Try.f9 [0, 1, 1, 1, 1] := ⟨oe_eq _ _, oe_eq _ _, oe_eq _ _, oe_eq _ _, oe_eq _ _, oe_eq _ _, oe_eq _ _, oe_eq _ _, oe_eq _ _, oe_eq _ _, oe_eq _ _⟩
theorem o90 : OE g90 Try.f90 [0] ∧ OE g90 Try.f90 [0, 1] ∧ OE g90 Try.f90 [0, 0, 0, 1, 1] ∧ OE g90 Try.f90 [0, 0, 1, 0, 0, 1, 1] ∧ OE g90 Try.f90 [0, 1, 1, 0, 0, 1, 1] ∧ OE g90 Try.f90 [0, 0, 1, 1, 1, 0, 0, 1, 1] ∧ OE g90 Try.f90 [0, 1, 1, 1, 1, 0, 0, 1, 1] ∧ OE g90 Try.f90 [0, 0, 1, 1, 1, 1, 1, 0, 0, 1, 1] ∧ OE g90 Try.f90 [0, 1, 1, 1, 1, 1, 1, 0, 0, 1, 1] ∧ OE g90 Try.f90 [0, 0, 1, 1, 1, 1, 1, 1, 1, 0, 0, 1, 1] ∧ OE g90 Try.f90 [0, 1, 1, 1] ∧ OE g90 Try.f90 [0, 1, 1, 1, 1] ∧ OE g90 Try.f90 [0, 1, 1, 1, 1, 1] ∧ OE g90 Try.f90 [0, 1, 1, 1, 1, 1, 1] ∧ OE g90 Try.f90 [0, 1, 1, 1, 1, 1, 1, 1] ∧ OE g90 Try.f90 [0, 0, 0, 0, 0, 1, 1, 1, 1, 1, 1, 1, 1] ∧ OE g90 Try.f90 [0, 0, 0, 1, 0, 0, 0, 1, 1, 1, 1, 1, 1, 1, 1] ∧ OE g90 Try.f90 [0, 0, 1, 0, 0, 1, 0, 0, 0, 1, 1, 1, 1, 1, 1, 1, 1] ∧ OE g90 Try.f90 [0, 0, 1, 0, 1, 0, 0, 1, 0, 0, 0, 1, 1, 1, 1, 1, 1, 1, 1] ∧ OE g90 Try.f90 [0, 0, 1, 0, 1, 0, 1, 0, 0, 1, 0, 0, 0, 1, 1, 1, 1, 1, 1, 1, 1] ∧ OE g90 Try.f90 [1, 1, 0, 1, 0, 0, 1, 0, 0, 0, 1, 1, 1, 1, 1, 1, 1, 1] ∧ OE g90 Try.f90 [0, 0, 1, 0, 1, 0, 0, 0, 1, 1, 1, 1, 1, 1, 1, 1] ∧ OE g90 Try.f90 [0, 0, 1, 0, 1, 0, 1, 0, 0, 0, 1, 1, 1, 1, 1, 1, 1, 1] ∧ OE g90 Try.f90 [0, 1, 1, 0, 1, 0, 0, 0, 1, 1, 1, 1, 1, 1, 1, 1] ∧ OE g90 Try.f90 [0, 1, 1, 1, 0, 1, 0, 0, 0, 1, 1, 1, 1, 1, 1, 1, 1] ∧ OE g90 Try.f90 [0, 1, 1, 1, 1, 0, 1, 0, 0, 0, 1, 1, 1, 1, 1, 1, 1, 1] ∧ OE g90 Try.f90 [0, 0, 1, 1, 1, 1, 1, 0, 1, 0, 0, 0, 1, 1, 1, 1, 1, 1, 1, 1] ∧ OE g90 Try.f90 [0, 0, 1, 0, 1, 1, 1, 1, 1, 0, 1, 0, 0, 0, 1, 1, 1, 1, 1, 1, 1, 1] ∧ OE g90 Try.f90 [0, 0, 1, 0, 1, 0, 1, 1, 1, 1, 1, 0, 1, 0, 0, 0, 1, 1, 1, 1, 1, 1, 1, 1] ∧ OE g90 Try.f90 [0, 1, 1, 0, 1, 1, 1, 1, 1, 0, 1, 0, 0, 0, 1, 1, 1, 1, 1, 1, 1, 1] ∧ OE g90 Try.f90 [0, 1, 1, 1, 1, 1, 1, 0, 1, 0, 0, 0, 1, 1, 1, 1, 1, 1, 1, 1] ∧ OE g90 Try.f90 [0, 0, 1, 1, 1, 1, 1, 1, 1, 0, 1, 0, 0, 0, 1, 1, 1, 1, 1, 1, 1, 1] ∧ OE g90 Try.f90 [0, 0, 1, 0, 1, 1, 1, 1, 1, 1, 1, 0, 1, 0, 0, 0, 1, 1, 1, 1, 1, 1, 1, 1] ∧ OE g90 Try.f90 [0, 0, 1, 0, 1, 0, 1, 1, 1, 1, 1, 1, 1, 0, 1, 0, 0, 0, 1, 1, 1, 1, 1, 1, 1, 1] ∧ OE g90 Try.f90 [0, 1, 1, 0, 1, 1, 1, 1, 1, 1, 1, 0, 1, 0, 0, 0, 1, 1, 1, 1, 1, 1, 1, 1] ∧ OE g90 Try.f90 [0, 1, 1, 1, 1, 1, 1, 1, 1, 1] := ⟨oe_eq _ _, oe_eq _ _, oe_eq _ _, oe_eq _ _, oe_eq _ _, oe_eq _ _, oe_eq _ _, oe_eq _ _, oe_eq _ _, oe_eq _ _, oe_eq _ _, oe_eq _ _, oe_eq _ _, oe_eq _ _, oe_eq _ _, oe_eq _ _, oe_eq _ _, oe_eq _ _, oe_eq _ _, oe_eq _ _, oe_eq _ _, oe_eq _ _, oe_eq _ _, oe_eq _ _, oe_eq _ _, oe_eq _ _, oe_eq _ _, oe_eq _ _, oe_eq _ _, oe_eq _ _, oe_eq _ _, oe_eq _ _, oe_eq _ _, oe_eq _ _, oe_eq _ _, oe_eq _ _⟩
theorem o9_1110100 : OE g9 Try.f9 [0, 0, 0, 0, 1, 0, 1, 1, 1] ∧ OE g9 Try.f9 [0, 0, 0, 1, 0, 0, 1, 0, 1, 1, 1] ∧ OE g9 Try.f9 [0, 1, 0, 0, 1, 0, 0, 1, 0, 1, 1, 1] ∧ OE g9 Try.f9 [0, 0, 1, 1, 0, 0, 1, 0, 0, 1, 0, 1, 1, 1] ∧ OE g9 Try.f9 [1, 1, 0, 0, 1, 0, 1, 1, 1] := ⟨oe_eq _ _, oe_eq _ _, oe_eq _ _, oe_eq _ _, oe_eq _ _⟩
theorem nameT : NameOK Try.prog := nameOK_of (by kernel_rfl)
theorem mixT : Try.prog.follows .mixedOrders = true := by kernel_rfl
theorem drawT : DrawsOK Try.prog T := drawsOK_of (by kernel_rfl)
end Go.Vsi

