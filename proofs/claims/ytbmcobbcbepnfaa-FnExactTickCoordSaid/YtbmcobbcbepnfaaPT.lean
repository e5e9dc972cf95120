/- The seat's table of hints for the abstract interpreter, and closed facts of its types. Printed by our own program (wip/tool/tab.py). -/
import Derived.Test.YtbmcobbcbepnfaaProg
import Derived.Test.YtbmcobbcbepnfaaV5
import Derived.KernelRfl
namespace Go.Vsi
open Go.Proofs
def assoc2 : List (Nat × Nat × List Nat) → Nat → Nat → List Nat
  | [], _, _ => []
  | (a, b, l) :: r, f, k => match Nat.beq a f && Nat.beq b k with | true => l | false => assoc2 r f k
def keepT : List (Nat × Nat × List Nat) := [(12, 5, [0, 1, 5]), (14, 5, [0, 1, 5]), (15, 9, [1, 2, 3, 4]), (17, 3, [0, 3, 4]), (19, 3, [0, 3, 4]), (20, 5, [2, 3, 25, 26, 27]), (22, 4, [0, 1, 5]), (24, 4, [0, 1, 5]), (26, 2, [0, 1, 5]), (28, 2, [0, 1, 5]), (30, 2, [0, 1, 5]), (32, 2, [0, 1, 5]), (34, 5, [0, 1, 5]), (35, 5, [0, 1, 5]), (38, 3, [0, 3, 4]), (39, 3, [0, 3, 4]), (40, 3, [0, 3, 4]), (45, 4, [0, 1, 5]), (46, 4, [0, 1, 5]), (47, 4, [0, 1, 5]), (49, 2, [0, 1, 5]), (50, 4, [0, 3]), (51, 2, [0, 1, 5]), (52, 2, [0, 1, 5]), (53, 2, [0, 1, 5]), (54, 2, [0, 1, 5]), (55, 2, [0, 1, 5])]
def outT : List (Nat × Nat × List Nat) := [(12, 5, [1, 4]), (14, 5, [1, 4]), (15, 9, [2, 3]), (17, 3, [3]), (19, 3, [3]), (20, 5, [2, 3]), (22, 4, [4]), (24, 4, [4]), (26, 2, [1]), (28, 2, [1]), (30, 2, [1, 4]), (32, 2, [1, 4]), (34, 5, [1, 4]), (35, 5, [1, 4]), (38, 3, [3]), (39, 3, [3]), (40, 3, [3]), (45, 4, [4]), (46, 4, [4]), (47, 4, [4]), (49, 2, [1]), (50, 4, [3]), (51, 2, [1]), (52, 2, [1]), (53, 2, [1, 4]), (54, 2, [1, 4]), (55, 2, [1, 4])]
def lendT : List Nat := [8, 10, 21, 22, 23, 24, 29, 30, 31, 32, 45, 46, 47, 48, 53, 54, 55, 1000000]
def rawT : List Nat := [6, 7, 16, 17, 18, 19, 20, 38, 39, 40, 41, 42, 43, 44]
def offT : List Nat := []
def assocP : List (Nat × Nat × List Pre) → Nat → Nat → List Pre
  | [], _, _ => []
  | (a, b, l) :: r, f, k => match Nat.beq a f && Nat.beq b k with | true => l | false => assocP r f k
def frzL : List (Nat × Nat × List Nat) := [(5, 1, [2]), (15, 14, [5])]
def preL : List (Nat × Nat × List Pre) := [(20, 6, [.up 25 0 27 0, .up 25 0 27 4, .up 25 0 27 5]), (20, 9, [.down 25 0 27 0, .down 25 0 27 4, .down 25 0 27 5]), (28, 4, [.up 0 0 5 0]), (28, 5, [.down 0 0 5 0]), (28, 11, [.up 0 0 5 4]), (28, 12, [.down 0 0 5 4, .up 0 0 5 5]), (28, 13, [.down 0 0 5 5]), (19, 2, [.nest 3 0])]
def T : Tab where
  keep := assoc2 keepT
  out := assoc2 outT
  frz := assoc2 frzL
  pre := assocP preL
  fin := fun f => !rawT.elem f
  lend := fun f => lendT.elem f
  ord := fun _ _ => []
  on := fun f => !offT.elem f

theorem K12_5 : T.keep 12 5 = [0, 1, 5] := by kernel_rfl
theorem K14_5 : T.keep 14 5 = [0, 1, 5] := by kernel_rfl
theorem K15_9 : T.keep 15 9 = [1, 2, 3, 4] := by kernel_rfl
theorem K17_3 : T.keep 17 3 = [0, 3, 4] := by kernel_rfl
theorem K19_3 : T.keep 19 3 = [0, 3, 4] := by kernel_rfl
theorem K20_5 : T.keep 20 5 = [2, 3, 25, 26, 27] := by kernel_rfl
theorem K22_4 : T.keep 22 4 = [0, 1, 5] := by kernel_rfl
theorem K24_4 : T.keep 24 4 = [0, 1, 5] := by kernel_rfl
theorem K26_2 : T.keep 26 2 = [0, 1, 5] := by kernel_rfl
theorem K28_2 : T.keep 28 2 = [0, 1, 5] := by kernel_rfl
theorem K30_2 : T.keep 30 2 = [0, 1, 5] := by kernel_rfl
theorem K32_2 : T.keep 32 2 = [0, 1, 5] := by kernel_rfl
theorem K34_5 : T.keep 34 5 = [0, 1, 5] := by kernel_rfl
theorem K35_5 : T.keep 35 5 = [0, 1, 5] := by kernel_rfl
theorem K38_3 : T.keep 38 3 = [0, 3, 4] := by kernel_rfl
theorem K39_3 : T.keep 39 3 = [0, 3, 4] := by kernel_rfl
theorem K40_3 : T.keep 40 3 = [0, 3, 4] := by kernel_rfl
theorem K45_4 : T.keep 45 4 = [0, 1, 5] := by kernel_rfl
theorem K46_4 : T.keep 46 4 = [0, 1, 5] := by kernel_rfl
theorem K47_4 : T.keep 47 4 = [0, 1, 5] := by kernel_rfl
theorem K49_2 : T.keep 49 2 = [0, 1, 5] := by kernel_rfl
theorem K50_4 : T.keep 50 4 = [0, 3] := by kernel_rfl
theorem K51_2 : T.keep 51 2 = [0, 1, 5] := by kernel_rfl
theorem K52_2 : T.keep 52 2 = [0, 1, 5] := by kernel_rfl
theorem K53_2 : T.keep 53 2 = [0, 1, 5] := by kernel_rfl
theorem K54_2 : T.keep 54 2 = [0, 1, 5] := by kernel_rfl
theorem K55_2 : T.keep 55 2 = [0, 1, 5] := by kernel_rfl
theorem O12_5 : T.out 12 5 = [1, 4] := by kernel_rfl
theorem O14_5 : T.out 14 5 = [1, 4] := by kernel_rfl
theorem O15_9 : T.out 15 9 = [2, 3] := by kernel_rfl
theorem O17_3 : T.out 17 3 = [3] := by kernel_rfl
theorem O19_3 : T.out 19 3 = [3] := by kernel_rfl
theorem O20_5 : T.out 20 5 = [2, 3] := by kernel_rfl
theorem O22_4 : T.out 22 4 = [4] := by kernel_rfl
theorem O24_4 : T.out 24 4 = [4] := by kernel_rfl
theorem O26_2 : T.out 26 2 = [1] := by kernel_rfl
theorem O28_2 : T.out 28 2 = [1] := by kernel_rfl
theorem O30_2 : T.out 30 2 = [1, 4] := by kernel_rfl
theorem O32_2 : T.out 32 2 = [1, 4] := by kernel_rfl
theorem O34_5 : T.out 34 5 = [1, 4] := by kernel_rfl
theorem O35_5 : T.out 35 5 = [1, 4] := by kernel_rfl
theorem O38_3 : T.out 38 3 = [3] := by kernel_rfl
theorem O39_3 : T.out 39 3 = [3] := by kernel_rfl
theorem O40_3 : T.out 40 3 = [3] := by kernel_rfl
theorem O45_4 : T.out 45 4 = [4] := by kernel_rfl
theorem O46_4 : T.out 46 4 = [4] := by kernel_rfl
theorem O47_4 : T.out 47 4 = [4] := by kernel_rfl
theorem O49_2 : T.out 49 2 = [1] := by kernel_rfl
theorem O50_4 : T.out 50 4 = [3] := by kernel_rfl
theorem O51_2 : T.out 51 2 = [1] := by kernel_rfl
theorem O52_2 : T.out 52 2 = [1] := by kernel_rfl
theorem O53_2 : T.out 53 2 = [1, 4] := by kernel_rfl
theorem O54_2 : T.out 54 2 = [1, 4] := by kernel_rfl
theorem O55_2 : T.out 55 2 = [1, 4] := by kernel_rfl
theorem G3 : T.fin 3 = true := by kernel_rfl
theorem N3 : T.on 3 = true := by kernel_rfl
theorem G4 : T.fin 4 = true := by kernel_rfl
theorem H4 : T.lend 4 = false := by kernel_rfl
theorem N4 : T.on 4 = true := by kernel_rfl
theorem Y4 : hasBody Try.prog 4 = true := by kernel_rfl
theorem G5 : T.fin 5 = true := by kernel_rfl
theorem H5 : T.lend 5 = false := by kernel_rfl
theorem N5 : T.on 5 = true := by kernel_rfl
theorem Y5 : hasBody Try.prog 5 = true := by kernel_rfl
theorem G6 : T.fin 6 = false := by kernel_rfl
theorem H6 : T.lend 6 = false := by kernel_rfl
theorem N6 : T.on 6 = true := by kernel_rfl
theorem Y6 : hasBody Try.prog 6 = true := by kernel_rfl
theorem G7 : T.fin 7 = false := by kernel_rfl
theorem H7 : T.lend 7 = false := by kernel_rfl
theorem N7 : T.on 7 = true := by kernel_rfl
theorem Y7 : hasBody Try.prog 7 = true := by kernel_rfl
theorem G8 : T.fin 8 = true := by kernel_rfl
theorem H8 : T.lend 8 = true := by kernel_rfl
theorem N8 : T.on 8 = true := by kernel_rfl
theorem Y8 : hasBody Try.prog 8 = true := by kernel_rfl
theorem G9 : T.fin 9 = true := by kernel_rfl
theorem H9 : T.lend 9 = false := by kernel_rfl
theorem N9 : T.on 9 = true := by kernel_rfl
theorem Y9 : hasBody Try.prog 9 = true := by kernel_rfl
theorem G10 : T.fin 10 = true := by kernel_rfl
theorem H10 : T.lend 10 = true := by kernel_rfl
theorem N10 : T.on 10 = true := by kernel_rfl
theorem Y10 : hasBody Try.prog 10 = true := by kernel_rfl
theorem G11 : T.fin 11 = true := by kernel_rfl
theorem H11 : T.lend 11 = false := by kernel_rfl
theorem N11 : T.on 11 = true := by kernel_rfl
theorem Y11 : hasBody Try.prog 11 = true := by kernel_rfl
theorem G12 : T.fin 12 = true := by kernel_rfl
theorem H12 : T.lend 12 = false := by kernel_rfl
theorem N12 : T.on 12 = true := by kernel_rfl
theorem Y12 : hasBody Try.prog 12 = true := by kernel_rfl
theorem G13 : T.fin 13 = true := by kernel_rfl
theorem H13 : T.lend 13 = false := by kernel_rfl
theorem N13 : T.on 13 = true := by kernel_rfl
theorem Y13 : hasBody Try.prog 13 = true := by kernel_rfl
theorem G14 : T.fin 14 = true := by kernel_rfl
theorem H14 : T.lend 14 = false := by kernel_rfl
theorem N14 : T.on 14 = true := by kernel_rfl
theorem Y14 : hasBody Try.prog 14 = true := by kernel_rfl
theorem G15 : T.fin 15 = true := by kernel_rfl
theorem H15 : T.lend 15 = false := by kernel_rfl
theorem N15 : T.on 15 = true := by kernel_rfl
theorem Y15 : hasBody Try.prog 15 = true := by kernel_rfl
theorem G16 : T.fin 16 = false := by kernel_rfl
theorem H16 : T.lend 16 = false := by kernel_rfl
theorem N16 : T.on 16 = true := by kernel_rfl
theorem Y16 : hasBody Try.prog 16 = true := by kernel_rfl
theorem G17 : T.fin 17 = false := by kernel_rfl
theorem H17 : T.lend 17 = false := by kernel_rfl
theorem N17 : T.on 17 = true := by kernel_rfl
theorem Y17 : hasBody Try.prog 17 = true := by kernel_rfl
theorem G18 : T.fin 18 = false := by kernel_rfl
theorem H18 : T.lend 18 = false := by kernel_rfl
theorem N18 : T.on 18 = true := by kernel_rfl
theorem Y18 : hasBody Try.prog 18 = true := by kernel_rfl
theorem G19 : T.fin 19 = false := by kernel_rfl
theorem H19 : T.lend 19 = false := by kernel_rfl
theorem N19 : T.on 19 = true := by kernel_rfl
theorem Y19 : hasBody Try.prog 19 = true := by kernel_rfl
theorem G20 : T.fin 20 = false := by kernel_rfl
theorem H20 : T.lend 20 = false := by kernel_rfl
theorem N20 : T.on 20 = true := by kernel_rfl
theorem Y20 : hasBody Try.prog 20 = true := by kernel_rfl
theorem G21 : T.fin 21 = true := by kernel_rfl
theorem H21 : T.lend 21 = true := by kernel_rfl
theorem N21 : T.on 21 = true := by kernel_rfl
theorem Y21 : hasBody Try.prog 21 = true := by kernel_rfl
theorem G22 : T.fin 22 = true := by kernel_rfl
theorem H22 : T.lend 22 = true := by kernel_rfl
theorem N22 : T.on 22 = true := by kernel_rfl
theorem Y22 : hasBody Try.prog 22 = true := by kernel_rfl
theorem G23 : T.fin 23 = true := by kernel_rfl
theorem H23 : T.lend 23 = true := by kernel_rfl
theorem N23 : T.on 23 = true := by kernel_rfl
theorem Y23 : hasBody Try.prog 23 = true := by kernel_rfl
theorem G24 : T.fin 24 = true := by kernel_rfl
theorem H24 : T.lend 24 = true := by kernel_rfl
theorem N24 : T.on 24 = true := by kernel_rfl
theorem Y24 : hasBody Try.prog 24 = true := by kernel_rfl
theorem G25 : T.fin 25 = true := by kernel_rfl
theorem H25 : T.lend 25 = false := by kernel_rfl
theorem N25 : T.on 25 = true := by kernel_rfl
theorem Y25 : hasBody Try.prog 25 = true := by kernel_rfl
theorem G26 : T.fin 26 = true := by kernel_rfl
theorem H26 : T.lend 26 = false := by kernel_rfl
theorem N26 : T.on 26 = true := by kernel_rfl
theorem Y26 : hasBody Try.prog 26 = true := by kernel_rfl
theorem G27 : T.fin 27 = true := by kernel_rfl
theorem H27 : T.lend 27 = false := by kernel_rfl
theorem N27 : T.on 27 = true := by kernel_rfl
theorem Y27 : hasBody Try.prog 27 = true := by kernel_rfl
theorem G28 : T.fin 28 = true := by kernel_rfl
theorem H28 : T.lend 28 = false := by kernel_rfl
theorem N28 : T.on 28 = true := by kernel_rfl
theorem Y28 : hasBody Try.prog 28 = true := by kernel_rfl
theorem G29 : T.fin 29 = true := by kernel_rfl
theorem H29 : T.lend 29 = true := by kernel_rfl
theorem N29 : T.on 29 = true := by kernel_rfl
theorem Y29 : hasBody Try.prog 29 = true := by kernel_rfl
theorem G30 : T.fin 30 = true := by kernel_rfl
theorem H30 : T.lend 30 = true := by kernel_rfl
theorem N30 : T.on 30 = true := by kernel_rfl
theorem Y30 : hasBody Try.prog 30 = true := by kernel_rfl
theorem G31 : T.fin 31 = true := by kernel_rfl
theorem H31 : T.lend 31 = true := by kernel_rfl
theorem N31 : T.on 31 = true := by kernel_rfl
theorem Y31 : hasBody Try.prog 31 = true := by kernel_rfl
theorem G32 : T.fin 32 = true := by kernel_rfl
theorem H32 : T.lend 32 = true := by kernel_rfl
theorem N32 : T.on 32 = true := by kernel_rfl
theorem Y32 : hasBody Try.prog 32 = true := by kernel_rfl
theorem G33 : T.fin 33 = true := by kernel_rfl
theorem H33 : T.lend 33 = false := by kernel_rfl
theorem N33 : T.on 33 = true := by kernel_rfl
theorem Y33 : hasBody Try.prog 33 = true := by kernel_rfl
theorem G34 : T.fin 34 = true := by kernel_rfl
theorem H34 : T.lend 34 = false := by kernel_rfl
theorem N34 : T.on 34 = true := by kernel_rfl
theorem Y34 : hasBody Try.prog 34 = true := by kernel_rfl
theorem G35 : T.fin 35 = true := by kernel_rfl
theorem H35 : T.lend 35 = false := by kernel_rfl
theorem N35 : T.on 35 = true := by kernel_rfl
theorem Y35 : hasBody Try.prog 35 = true := by kernel_rfl
theorem G36 : T.fin 36 = true := by kernel_rfl
theorem H36 : T.lend 36 = false := by kernel_rfl
theorem N36 : T.on 36 = true := by kernel_rfl
theorem Y36 : hasBody Try.prog 36 = true := by kernel_rfl
theorem G37 : T.fin 37 = true := by kernel_rfl
theorem H37 : T.lend 37 = false := by kernel_rfl
theorem N37 : T.on 37 = true := by kernel_rfl
theorem Y37 : hasBody Try.prog 37 = true := by kernel_rfl
theorem G38 : T.fin 38 = false := by kernel_rfl
theorem H38 : T.lend 38 = false := by kernel_rfl
theorem N38 : T.on 38 = true := by kernel_rfl
theorem Y38 : hasBody Try.prog 38 = true := by kernel_rfl
theorem G39 : T.fin 39 = false := by kernel_rfl
theorem H39 : T.lend 39 = false := by kernel_rfl
theorem N39 : T.on 39 = true := by kernel_rfl
theorem Y39 : hasBody Try.prog 39 = true := by kernel_rfl
theorem G40 : T.fin 40 = false := by kernel_rfl
theorem H40 : T.lend 40 = false := by kernel_rfl
theorem N40 : T.on 40 = true := by kernel_rfl
theorem Y40 : hasBody Try.prog 40 = true := by kernel_rfl
theorem G41 : T.fin 41 = false := by kernel_rfl
theorem H41 : T.lend 41 = false := by kernel_rfl
theorem N41 : T.on 41 = true := by kernel_rfl
theorem Y41 : hasBody Try.prog 41 = true := by kernel_rfl
theorem G42 : T.fin 42 = false := by kernel_rfl
theorem H42 : T.lend 42 = false := by kernel_rfl
theorem N42 : T.on 42 = true := by kernel_rfl
theorem Y42 : hasBody Try.prog 42 = true := by kernel_rfl
theorem G43 : T.fin 43 = false := by kernel_rfl
theorem H43 : T.lend 43 = false := by kernel_rfl
theorem N43 : T.on 43 = true := by kernel_rfl
theorem Y43 : hasBody Try.prog 43 = true := by kernel_rfl
theorem G44 : T.fin 44 = false := by kernel_rfl
theorem H44 : T.lend 44 = false := by kernel_rfl
theorem N44 : T.on 44 = true := by kernel_rfl
theorem Y44 : hasBody Try.prog 44 = true := by kernel_rfl
theorem G45 : T.fin 45 = true := by kernel_rfl
theorem H45 : T.lend 45 = true := by kernel_rfl
theorem N45 : T.on 45 = true := by kernel_rfl
theorem Y45 : hasBody Try.prog 45 = true := by kernel_rfl
theorem G46 : T.fin 46 = true := by kernel_rfl
theorem H46 : T.lend 46 = true := by kernel_rfl
theorem N46 : T.on 46 = true := by kernel_rfl
theorem Y46 : hasBody Try.prog 46 = true := by kernel_rfl
theorem G47 : T.fin 47 = true := by kernel_rfl
theorem H47 : T.lend 47 = true := by kernel_rfl
theorem N47 : T.on 47 = true := by kernel_rfl
theorem Y47 : hasBody Try.prog 47 = true := by kernel_rfl
theorem G48 : T.fin 48 = true := by kernel_rfl
theorem H48 : T.lend 48 = true := by kernel_rfl
theorem N48 : T.on 48 = true := by kernel_rfl
theorem Y48 : hasBody Try.prog 48 = true := by kernel_rfl
theorem G49 : T.fin 49 = true := by kernel_rfl
theorem H49 : T.lend 49 = false := by kernel_rfl
theorem N49 : T.on 49 = true := by kernel_rfl
theorem Y49 : hasBody Try.prog 49 = true := by kernel_rfl
theorem G50 : T.fin 50 = true := by kernel_rfl
theorem H50 : T.lend 50 = false := by kernel_rfl
theorem N50 : T.on 50 = true := by kernel_rfl
theorem Y50 : hasBody Try.prog 50 = true := by kernel_rfl
theorem G51 : T.fin 51 = true := by kernel_rfl
theorem H51 : T.lend 51 = false := by kernel_rfl
theorem N51 : T.on 51 = true := by kernel_rfl
theorem Y51 : hasBody Try.prog 51 = true := by kernel_rfl
theorem G52 : T.fin 52 = true := by kernel_rfl
theorem H52 : T.lend 52 = false := by kernel_rfl
theorem N52 : T.on 52 = true := by kernel_rfl
theorem Y52 : hasBody Try.prog 52 = true := by kernel_rfl
theorem G53 : T.fin 53 = true := by kernel_rfl
theorem H53 : T.lend 53 = true := by kernel_rfl
theorem N53 : T.on 53 = true := by kernel_rfl
theorem Y53 : hasBody Try.prog 53 = true := by kernel_rfl
theorem G54 : T.fin 54 = true := by kernel_rfl
theorem H54 : T.lend 54 = true := by kernel_rfl
theorem N54 : T.on 54 = true := by kernel_rfl
theorem Y54 : hasBody Try.prog 54 = true := by kernel_rfl
theorem G55 : T.fin 55 = true := by kernel_rfl
theorem H55 : T.lend 55 = true := by kernel_rfl
theorem N55 : T.on 55 = true := by kernel_rfl
theorem Y55 : hasBody Try.prog 55 = true := by kernel_rfl
theorem G56 : T.fin 56 = true := by kernel_rfl
theorem H56 : T.lend 56 = false := by kernel_rfl
theorem N56 : T.on 56 = true := by kernel_rfl
theorem Y56 : hasBody Try.prog 56 = true := by kernel_rfl
theorem G57 : T.fin 57 = true := by kernel_rfl
theorem H57 : T.lend 57 = false := by kernel_rfl
theorem N57 : T.on 57 = true := by kernel_rfl
theorem Y57 : hasBody Try.prog 57 = true := by kernel_rfl
theorem G58 : T.fin 58 = true := by kernel_rfl
theorem H58 : T.lend 58 = false := by kernel_rfl
theorem N58 : T.on 58 = true := by kernel_rfl
theorem Y58 : hasBody Try.prog 58 = true := by kernel_rfl
theorem G59 : T.fin 59 = true := by kernel_rfl
theorem H59 : T.lend 59 = false := by kernel_rfl
theorem N59 : T.on 59 = true := by kernel_rfl
theorem Y59 : hasBody Try.prog 59 = true := by kernel_rfl
theorem G60 : T.fin 60 = true := by kernel_rfl
theorem H60 : T.lend 60 = false := by kernel_rfl
theorem N60 : T.on 60 = true := by kernel_rfl
theorem Y60 : hasBody Try.prog 60 = true := by kernel_rfl
theorem G61 : T.fin 61 = true := by kernel_rfl
theorem H61 : T.lend 61 = false := by kernel_rfl
theorem N61 : T.on 61 = true := by kernel_rfl
theorem Y61 : hasBody Try.prog 61 = true := by kernel_rfl
theorem G62 : T.fin 62 = true := by kernel_rfl
theorem H62 : T.lend 62 = false := by kernel_rfl
theorem N62 : T.on 62 = true := by kernel_rfl
theorem Y62 : hasBody Try.prog 62 = true := by kernel_rfl
theorem G63 : T.fin 63 = true := by kernel_rfl
theorem H63 : T.lend 63 = false := by kernel_rfl
theorem N63 : T.on 63 = true := by kernel_rfl
theorem Y63 : hasBody Try.prog 63 = true := by kernel_rfl
theorem I3 : Try.prog.info? 3 = some Try.t3 := by kernel_rfl
theorem S3 : Try.t3.size = 1 := rfl
theorem C3 : Try.prog.cellsOf 3 = 1 := by kernel_rfl
theorem A3 : isAggB Try.prog 3 = false := by kernel_rfl
theorem B3 : Try.prog.bytesOf 3 = 8 := by kernel_rfl
theorem Z3 : zeroCells Try.prog 3 = some [.d (.v (.int .i64 0))] := by kernel_rfl
theorem I4 : Try.prog.info? 4 = some Try.t4 := by kernel_rfl
theorem S4 : Try.t4.size = 1 := rfl
theorem C4 : Try.prog.cellsOf 4 = 1 := by kernel_rfl
theorem A4 : isAggB Try.prog 4 = false := by kernel_rfl
theorem B4 : Try.prog.bytesOf 4 = 1 := by kernel_rfl
theorem Z4 : zeroCells Try.prog 4 = some [.d (.v (.bool false))] := by kernel_rfl
theorem I5 : Try.prog.info? 5 = some Try.t5 := by kernel_rfl
theorem S5 : Try.t5.size = 1 := rfl
theorem C5 : Try.prog.cellsOf 5 = 1 := by kernel_rfl
theorem A5 : isAggB Try.prog 5 = false := by kernel_rfl
theorem B5 : Try.prog.bytesOf 5 = 1 := by kernel_rfl
theorem Z5 : zeroCells Try.prog 5 = some [.d (.v (.int .u8 0))] := by kernel_rfl
theorem I9 : Try.prog.info? 9 = some Try.t9 := by kernel_rfl
theorem S9 : Try.t9.size = 1 := rfl
theorem C9 : Try.prog.cellsOf 9 = 1 := by kernel_rfl
theorem A9 : isAggB Try.prog 9 = false := by kernel_rfl
theorem B9 : Try.prog.bytesOf 9 = 16 := by kernel_rfl
theorem Z9 : zeroCells Try.prog 9 = some [.d (.v (.string .empty))] := by kernel_rfl
theorem I22 : Try.prog.info? 22 = some Try.t22 := by kernel_rfl
theorem S22 : Try.t22.size = 1 := rfl
theorem C22 : Try.prog.cellsOf 22 = 1 := by kernel_rfl
theorem A22 : isAggB Try.prog 22 = false := by kernel_rfl
theorem E22 : elemT Try.prog 22 = some 9 := by kernel_rfl
theorem B22 : Try.prog.bytesOf 22 = 24 := by kernel_rfl
theorem Z22 : zeroCells Try.prog 22 = some [.d (.v (.slice none 0 0))] := by kernel_rfl
theorem I23 : Try.prog.info? 23 = some Try.t23 := by kernel_rfl
theorem S23 : Try.t23.size = 1 := rfl
theorem C23 : Try.prog.cellsOf 23 = 1 := by kernel_rfl
theorem A23 : isAggB Try.prog 23 = false := by kernel_rfl
theorem E23 : elemT Try.prog 23 = some 96 := by kernel_rfl
theorem B23 : Try.prog.bytesOf 23 = 24 := by kernel_rfl
theorem Z23 : zeroCells Try.prog 23 = some [.d (.v (.slice none 0 0))] := by kernel_rfl
theorem I25 : Try.prog.info? 25 = some Try.t25 := by kernel_rfl
theorem S25 : Try.t25.size = 5 := rfl
theorem C25 : Try.prog.cellsOf 25 = 5 := by kernel_rfl
theorem A25 : isAggB Try.prog 25 = true := by kernel_rfl
theorem B25 : Try.prog.bytesOf 25 = 72 := by kernel_rfl
theorem Z25 : zeroCells Try.prog 25 = some [.d (.v (.slice none 0 0)), .d (.v (.slice none 0 0)), .d (.v (.int .i64 0)), .d (.v (.int .i64 0)), .d (.v (.int .i64 0))] := by kernel_rfl
theorem I26 : Try.prog.info? 26 = some Try.t26 := by kernel_rfl
theorem S26 : Try.t26.size = 1 := rfl
theorem C26 : Try.prog.cellsOf 26 = 1 := by kernel_rfl
theorem A26 : isAggB Try.prog 26 = false := by kernel_rfl
theorem E26 : elemT Try.prog 26 = some 89 := by kernel_rfl
theorem B26 : Try.prog.bytesOf 26 = 24 := by kernel_rfl
theorem Z26 : zeroCells Try.prog 26 = some [.d (.v (.slice none 0 0))] := by kernel_rfl
theorem I27 : Try.prog.info? 27 = some Try.t27 := by kernel_rfl
theorem S27 : Try.t27.size = 1 := rfl
theorem C27 : Try.prog.cellsOf 27 = 1 := by kernel_rfl
theorem A27 : isAggB Try.prog 27 = false := by kernel_rfl
theorem E27 : elemT Try.prog 27 = some 92 := by kernel_rfl
theorem B27 : Try.prog.bytesOf 27 = 24 := by kernel_rfl
theorem Z27 : zeroCells Try.prog 27 = some [.d (.v (.slice none 0 0))] := by kernel_rfl
theorem I29 : Try.prog.info? 29 = some Try.t29 := by kernel_rfl
theorem S29 : Try.t29.size = 3 := rfl
theorem C29 : Try.prog.cellsOf 29 = 3 := by kernel_rfl
theorem A29 : isAggB Try.prog 29 = true := by kernel_rfl
theorem B29 : Try.prog.bytesOf 29 = 64 := by kernel_rfl
theorem Z29 : zeroCells Try.prog 29 = some [.d (.v (.slice none 0 0)), .d (.v (.slice none 0 0)), .d (.v (.string .empty))] := by kernel_rfl
theorem I30 : Try.prog.info? 30 = some Try.t30 := by kernel_rfl
theorem S30 : Try.t30.size = 1 := rfl
theorem C30 : Try.prog.cellsOf 30 = 1 := by kernel_rfl
theorem A30 : isAggB Try.prog 30 = false := by kernel_rfl
theorem E30 : elemT Try.prog 30 = some 70 := by kernel_rfl
theorem B30 : Try.prog.bytesOf 30 = 24 := by kernel_rfl
theorem Z30 : zeroCells Try.prog 30 = some [.d (.v (.slice none 0 0))] := by kernel_rfl
theorem I32 : Try.prog.info? 32 = some Try.t32 := by kernel_rfl
theorem S32 : Try.t32.size = 17 := rfl
theorem C32 : Try.prog.cellsOf 32 = 17 := by kernel_rfl
theorem A32 : isAggB Try.prog 32 = true := by kernel_rfl
theorem B32 : Try.prog.bytesOf 32 = 280 := by kernel_rfl
theorem Z32 : zeroCells Try.prog 32 = some [.d (.v (.slice none 0 0)), .d (.v (.slice none 0 0)), .d (.v (.int .i64 0)), .d (.v (.int .i64 0)), .d (.v (.int .i64 0)), .d (.v (.slice none 0 0)), .d (.v (.slice none 0 0)), .d (.v (.slice none 0 0)), .d (.v (.string .empty)), .d (.v (.int .i64 0)), .d (.v (.slice none 0 0)), .d (.v (.int .i64 0)), .d (.v (.int .i64 0)), .d (.v (.bool false)), .d (.v (.slice none 0 0)), .d (.v (.slice none 0 0)), .d (.v (.string .empty))] := by kernel_rfl
theorem I34 : Try.prog.info? 34 = some Try.t34 := by kernel_rfl
theorem S34 : Try.t34.size = 1 := rfl
theorem C34 : Try.prog.cellsOf 34 = 1 := by kernel_rfl
theorem A34 : isAggB Try.prog 34 = false := by kernel_rfl
theorem E34 : elemT Try.prog 34 = some 94 := by kernel_rfl
theorem B34 : Try.prog.bytesOf 34 = 24 := by kernel_rfl
theorem Z34 : zeroCells Try.prog 34 = some [.d (.v (.slice none 0 0))] := by kernel_rfl
theorem I36 : Try.prog.info? 36 = some Try.t36 := by kernel_rfl
theorem S36 : Try.t36.size = 5 := rfl
theorem C36 : Try.prog.cellsOf 36 = 5 := by kernel_rfl
theorem A36 : isAggB Try.prog 36 = true := by kernel_rfl
theorem B36 : Try.prog.bytesOf 36 = 72 := by kernel_rfl
theorem Z36 : zeroCells Try.prog 36 = some [.d (.v (.slice none 0 0)), .d (.v (.slice none 0 0)), .d (.v (.int .i64 0)), .d (.v (.int .i64 0)), .d (.v (.int .i64 0))] := by kernel_rfl
theorem I37 : Try.prog.info? 37 = some Try.t37 := by kernel_rfl
theorem S37 : Try.t37.size = 1 := rfl
theorem C37 : Try.prog.cellsOf 37 = 1 := by kernel_rfl
theorem A37 : isAggB Try.prog 37 = false := by kernel_rfl
theorem E37 : elemT Try.prog 37 = some 97 := by kernel_rfl
theorem B37 : Try.prog.bytesOf 37 = 24 := by kernel_rfl
theorem Z37 : zeroCells Try.prog 37 = some [.d (.v (.slice none 0 0))] := by kernel_rfl
theorem I38 : Try.prog.info? 38 = some Try.t38 := by kernel_rfl
theorem S38 : Try.t38.size = 1 := rfl
theorem C38 : Try.prog.cellsOf 38 = 1 := by kernel_rfl
theorem A38 : isAggB Try.prog 38 = false := by kernel_rfl
theorem E38 : elemT Try.prog 38 = some 99 := by kernel_rfl
theorem B38 : Try.prog.bytesOf 38 = 24 := by kernel_rfl
theorem Z38 : zeroCells Try.prog 38 = some [.d (.v (.slice none 0 0))] := by kernel_rfl
theorem I40 : Try.prog.info? 40 = some Try.t40 := by kernel_rfl
theorem S40 : Try.t40.size = 3 := rfl
theorem C40 : Try.prog.cellsOf 40 = 3 := by kernel_rfl
theorem A40 : isAggB Try.prog 40 = true := by kernel_rfl
theorem B40 : Try.prog.bytesOf 40 = 64 := by kernel_rfl
theorem Z40 : zeroCells Try.prog 40 = some [.d (.v (.slice none 0 0)), .d (.v (.slice none 0 0)), .d (.v (.string .empty))] := by kernel_rfl
theorem I41 : Try.prog.info? 41 = some Try.t41 := by kernel_rfl
theorem S41 : Try.t41.size = 1 := rfl
theorem C41 : Try.prog.cellsOf 41 = 1 := by kernel_rfl
theorem A41 : isAggB Try.prog 41 = false := by kernel_rfl
theorem E41 : elemT Try.prog 41 = some 73 := by kernel_rfl
theorem B41 : Try.prog.bytesOf 41 = 24 := by kernel_rfl
theorem Z41 : zeroCells Try.prog 41 = some [.d (.v (.slice none 0 0))] := by kernel_rfl
theorem I43 : Try.prog.info? 43 = some Try.t43 := by kernel_rfl
theorem S43 : Try.t43.size = 17 := rfl
theorem C43 : Try.prog.cellsOf 43 = 17 := by kernel_rfl
theorem A43 : isAggB Try.prog 43 = true := by kernel_rfl
theorem B43 : Try.prog.bytesOf 43 = 280 := by kernel_rfl
theorem Z43 : zeroCells Try.prog 43 = some [.d (.v (.slice none 0 0)), .d (.v (.slice none 0 0)), .d (.v (.int .i64 0)), .d (.v (.int .i64 0)), .d (.v (.int .i64 0)), .d (.v (.slice none 0 0)), .d (.v (.slice none 0 0)), .d (.v (.slice none 0 0)), .d (.v (.string .empty)), .d (.v (.int .i64 0)), .d (.v (.slice none 0 0)), .d (.v (.int .i64 0)), .d (.v (.int .i64 0)), .d (.v (.bool false)), .d (.v (.slice none 0 0)), .d (.v (.slice none 0 0)), .d (.v (.string .empty))] := by kernel_rfl
theorem I70 : Try.prog.info? 70 = some Try.t70 := by kernel_rfl
theorem S70 : Try.t70.size = 7 := rfl
theorem C70 : Try.prog.cellsOf 70 = 7 := by kernel_rfl
theorem A70 : isAggB Try.prog 70 = true := by kernel_rfl
theorem B70 : Try.prog.bytesOf 70 = 112 := by kernel_rfl
theorem Z70 : zeroCells Try.prog 70 = some [.d (.v (.slice none 0 0)), .d (.v (.int .i64 0)), .d (.v (.int .i64 0)), .d (.v (.bool false)), .d (.v (.slice none 0 0)), .d (.v (.slice none 0 0)), .d (.v (.string .empty))] := by kernel_rfl
theorem I73 : Try.prog.info? 73 = some Try.t73 := by kernel_rfl
theorem S73 : Try.t73.size = 7 := rfl
theorem C73 : Try.prog.cellsOf 73 = 7 := by kernel_rfl
theorem A73 : isAggB Try.prog 73 = true := by kernel_rfl
theorem B73 : Try.prog.bytesOf 73 = 112 := by kernel_rfl
theorem Z73 : zeroCells Try.prog 73 = some [.d (.v (.slice none 0 0)), .d (.v (.int .i64 0)), .d (.v (.int .i64 0)), .d (.v (.bool false)), .d (.v (.slice none 0 0)), .d (.v (.slice none 0 0)), .d (.v (.string .empty))] := by kernel_rfl
theorem I89 : Try.prog.info? 89 = some Try.t89 := by kernel_rfl
theorem S89 : Try.t89.size = 2 := rfl
theorem C89 : Try.prog.cellsOf 89 = 2 := by kernel_rfl
theorem A89 : isAggB Try.prog 89 = true := by kernel_rfl
theorem B89 : Try.prog.bytesOf 89 = 32 := by kernel_rfl
theorem Z89 : zeroCells Try.prog 89 = some [.d (.v (.string .empty)), .d (.v (.string .empty))] := by kernel_rfl
theorem I92 : Try.prog.info? 92 = some Try.t92 := by kernel_rfl
theorem S92 : Try.t92.size = 3 := rfl
theorem C92 : Try.prog.cellsOf 92 = 3 := by kernel_rfl
theorem A92 : isAggB Try.prog 92 = true := by kernel_rfl
theorem B92 : Try.prog.bytesOf 92 = 48 := by kernel_rfl
theorem Z92 : zeroCells Try.prog 92 = some [.d (.v (.string .empty)), .d (.v (.string .empty)), .d (.v (.string .empty))] := by kernel_rfl
theorem I94 : Try.prog.info? 94 = some Try.t94 := by kernel_rfl
theorem S94 : Try.t94.size = 2 := rfl
theorem C94 : Try.prog.cellsOf 94 = 2 := by kernel_rfl
theorem A94 : isAggB Try.prog 94 = true := by kernel_rfl
theorem B94 : Try.prog.bytesOf 94 = 16 := by kernel_rfl
theorem Z94 : zeroCells Try.prog 94 = some [.d (.v (.int .i64 0)), .d (.v (.int .i64 0))] := by kernel_rfl
theorem I96 : Try.prog.info? 96 = some Try.t96 := by kernel_rfl
theorem S96 : Try.t96.size = 2 := rfl
theorem C96 : Try.prog.cellsOf 96 = 2 := by kernel_rfl
theorem A96 : isAggB Try.prog 96 = true := by kernel_rfl
theorem B96 : Try.prog.bytesOf 96 = 16 := by kernel_rfl
theorem Z96 : zeroCells Try.prog 96 = some [.d (.v (.int .i64 0)), .d (.v (.int .i64 0))] := by kernel_rfl
theorem I97 : Try.prog.info? 97 = some Try.t97 := by kernel_rfl
theorem S97 : Try.t97.size = 2 := rfl
theorem C97 : Try.prog.cellsOf 97 = 2 := by kernel_rfl
theorem A97 : isAggB Try.prog 97 = true := by kernel_rfl
theorem B97 : Try.prog.bytesOf 97 = 32 := by kernel_rfl
theorem Z97 : zeroCells Try.prog 97 = some [.d (.v (.string .empty)), .d (.v (.string .empty))] := by kernel_rfl
theorem I99 : Try.prog.info? 99 = some Try.t99 := by kernel_rfl
theorem S99 : Try.t99.size = 3 := rfl
theorem C99 : Try.prog.cellsOf 99 = 3 := by kernel_rfl
theorem A99 : isAggB Try.prog 99 = true := by kernel_rfl
theorem B99 : Try.prog.bytesOf 99 = 48 := by kernel_rfl
theorem Z99 : zeroCells Try.prog 99 = some [.d (.v (.string .empty)), .d (.v (.string .empty)), .d (.v (.string .empty))] := by kernel_rfl
theorem I104 : Try.prog.info? 104 = some Try.t104 := by kernel_rfl
theorem S104 : Try.t104.size = 1 := rfl
theorem C104 : Try.prog.cellsOf 104 = 1 := by kernel_rfl
theorem A104 : isAggB Try.prog 104 = false := by kernel_rfl
theorem E104 : elemT Try.prog 104 = some 5 := by kernel_rfl
theorem B104 : Try.prog.bytesOf 104 = 24 := by kernel_rfl
theorem Z104 : zeroCells Try.prog 104 = some [.d (.v (.slice none 0 0))] := by kernel_rfl
theorem BE4 (x y : Operand) (a b : Bool) : pure1 Try.prog (do eqGuard .eql 4 x y (.bool a) (.bool b); binOp .eql 4 (.bool a) (.bool b)) = some (.one (.c (.d (.v (.bool (a == b)))))) := bin_beql 4 x y Try.underlying4 a b
theorem BN4 (x y : Operand) (a b : Bool) : pure1 Try.prog (do eqGuard .neq 4 x y (.bool a) (.bool b); binOp .neq 4 (.bool a) (.bool b)) = some (.one (.c (.d (.v (.bool (!(a == b))))))) := bin_bneq 4 x y Try.underlying4 a b
theorem LN9 (s : ByteArray) : pure1 Try.prog (Builtin.len_ #[9] 0 #[.string s]) = some (.one (.c (.d (.v (.int .i64 s.size))))) := len_str rfl Try.underlying9 s
theorem IX9 (l : List UInt8) (k : IntKind) (i : Int) (h : 0 ≤ i ∧ i.toNat < l.length) : pure1 Try.prog (Instr.index 9 (.string (B l)) (.int k i)) = some (.one (.c (.d (.v (.int .u8 (l[i.toNat]'h.2).toNat))))) := ix_B Try.underlying9 l k i h
theorem CV3_5 (k : IntKind) (n : Int) : pure1 Try.prog (convert 3 5 (.int k n)) = some (.one (.c (.d (.v (.int .u8 ((Go.IntKind.u8).wrap n)))))) := conv_int Try.underlying3 Try.underlying5 k n
theorem R3 : Try.f3.results.toList = [.tmp 4] := rfl
theorem M3 : Try.f3.ntmps = 74 := rfl
noncomputable def g3 : Func := Try.f3
theorem U3 : Try.f3.body = some (cq g3 []) := rfl
theorem R4 : Try.f4.results.toList = [.tmp 4] := rfl
theorem M4 : Try.f4.ntmps = 36 := rfl
noncomputable def g4 : Func := Try.f4
theorem U4 : Try.f4.body = some (cq g4 []) := rfl
theorem R5 : Try.f5.results.toList = [.cell 4 43] := rfl
theorem M5 : Try.f5.ntmps = 20 := rfl
noncomputable def g5 : Func := Try.f5
theorem U5 : Try.f5.body = some (cq g5 []) := rfl
theorem R6 : Try.f6.results.toList = [.cell 2 43] := rfl
theorem M6 : Try.f6.ntmps = 37 := rfl
noncomputable def g6 : Func := Try.f6
theorem U6 : Try.f6.body = some (cq g6 []) := rfl
theorem R7 : Try.f7.results.toList = [.cell 4 43] := rfl
theorem M7 : Try.f7.ntmps = 17 := rfl
noncomputable def g7 : Func := Try.f7
theorem U7 : Try.f7.body = some (cq g7 []) := rfl
theorem R8 : Try.f8.results.toList = [.tmp 4] := rfl
theorem M8 : Try.f8.ntmps = 55 := rfl
noncomputable def g8 : Func := Try.f8
theorem U8 : Try.f8.body = some (cq g8 []) := rfl
theorem R9 : Try.f9.results.toList = [.tmp 4] := rfl
theorem M9 : Try.f9.ntmps = 26 := rfl
noncomputable def g9 : Func := Try.f9
theorem U9 : Try.f9.body = some (cq g9 []) := rfl
theorem R10 : Try.f10.results.toList = [.tmp 4] := rfl
theorem M10 : Try.f10.ntmps = 36 := rfl
noncomputable def g10 : Func := Try.f10
theorem U10 : Try.f10.body = some (cq g10 []) := rfl
theorem R11 : Try.f11.results.toList = [.tmp 4] := rfl
theorem M11 : Try.f11.ntmps = 18 := rfl
noncomputable def g11 : Func := Try.f11
theorem U11 : Try.f11.body = some (cq g11 []) := rfl
theorem R12 : Try.f12.results.toList = [.tmp 4] := rfl
theorem M12 : Try.f12.ntmps = 28 := rfl
noncomputable def g12 : Func := Try.f12
theorem U12 : Try.f12.body = some (cq g12 []) := rfl
theorem R13 : Try.f13.results.toList = [.tmp 4] := rfl
theorem M13 : Try.f13.ntmps = 25 := rfl
noncomputable def g13 : Func := Try.f13
theorem U13 : Try.f13.body = some (cq g13 []) := rfl
theorem R14 : Try.f14.results.toList = [.tmp 4] := rfl
theorem M14 : Try.f14.ntmps = 27 := rfl
noncomputable def g14 : Func := Try.f14
theorem U14 : Try.f14.body = some (cq g14 []) := rfl
theorem R15 : Try.f15.results.toList = [.cell 2 43] := rfl
theorem M15 : Try.f15.ntmps = 64 := rfl
noncomputable def g15 : Func := Try.f15
theorem U15 : Try.f15.body = some (cq g15 []) := rfl
theorem R16 : Try.f16.results.toList = [.cell 2 36] := rfl
theorem M16 : Try.f16.ntmps = 22 := rfl
noncomputable def g16 : Func := Try.f16
theorem U16 : Try.f16.body = some (cq g16 []) := rfl
theorem R17 : Try.f17.results.toList = [.tmp 2] := rfl
theorem M17 : Try.f17.ntmps = 22 := rfl
noncomputable def g17 : Func := Try.f17
theorem U17 : Try.f17.body = some (cq g17 []) := rfl
theorem R18 : Try.f18.results.toList = [.cell 2 40] := rfl
theorem M18 : Try.f18.ntmps = 16 := rfl
noncomputable def g18 : Func := Try.f18
theorem U18 : Try.f18.body = some (cq g18 []) := rfl
theorem R19 : Try.f19.results.toList = [.tmp 2] := rfl
theorem M19 : Try.f19.ntmps = 23 := rfl
noncomputable def g19 : Func := Try.f19
theorem U19 : Try.f19.body = some (cq g19 []) := rfl
theorem R20 : Try.f20.results.toList = [.cell 2 43] := rfl
theorem M20 : Try.f20.ntmps = 47 := rfl
noncomputable def g20 : Func := Try.f20
theorem U20 : Try.f20.body = some (cq g20 []) := rfl
theorem R21 : Try.f21.results.toList = [.tmp 4] := rfl
theorem M21 : Try.f21.ntmps = 32 := rfl
noncomputable def g21 : Func := Try.f21
theorem U21 : Try.f21.body = some (cq g21 []) := rfl
theorem R22 : Try.f22.results.toList = [.tmp 4] := rfl
theorem M22 : Try.f22.ntmps = 26 := rfl
noncomputable def g22 : Func := Try.f22
theorem U22 : Try.f22.body = some (cq g22 []) := rfl
theorem R23 : Try.f23.results.toList = [.tmp 4] := rfl
theorem M23 : Try.f23.ntmps = 22 := rfl
noncomputable def g23 : Func := Try.f23
theorem U23 : Try.f23.body = some (cq g23 []) := rfl
theorem R24 : Try.f24.results.toList = [.tmp 4] := rfl
theorem M24 : Try.f24.ntmps = 27 := rfl
noncomputable def g24 : Func := Try.f24
theorem U24 : Try.f24.body = some (cq g24 []) := rfl
theorem R25 : Try.f25.results.toList = [.tmp 4] := rfl
theorem M25 : Try.f25.ntmps = 14 := rfl
noncomputable def g25 : Func := Try.f25
theorem U25 : Try.f25.body = some (cq g25 []) := rfl
theorem R26 : Try.f26.results.toList = [.tmp 4] := rfl
theorem M26 : Try.f26.ntmps = 20 := rfl
noncomputable def g26 : Func := Try.f26
theorem U26 : Try.f26.body = some (cq g26 []) := rfl
theorem R27 : Try.f27.results.toList = [.tmp 4] := rfl
theorem M27 : Try.f27.ntmps = 14 := rfl
noncomputable def g27 : Func := Try.f27
theorem U27 : Try.f27.body = some (cq g27 []) := rfl
theorem R28 : Try.f28.results.toList = [.tmp 4] := rfl
theorem M28 : Try.f28.ntmps = 68 := rfl
noncomputable def g28 : Func := Try.f28
theorem U28 : Try.f28.body = some (cq g28 []) := rfl
theorem R29 : Try.f29.results.toList = [.tmp 4] := rfl
theorem M29 : Try.f29.ntmps = 18 := rfl
noncomputable def g29 : Func := Try.f29
theorem U29 : Try.f29.body = some (cq g29 []) := rfl
theorem R30 : Try.f30.results.toList = [.tmp 4] := rfl
theorem M30 : Try.f30.ntmps = 22 := rfl
noncomputable def g30 : Func := Try.f30
theorem U30 : Try.f30.body = some (cq g30 []) := rfl
theorem R31 : Try.f31.results.toList = [.tmp 4] := rfl
theorem M31 : Try.f31.ntmps = 18 := rfl
noncomputable def g31 : Func := Try.f31
theorem U31 : Try.f31.body = some (cq g31 []) := rfl
theorem R32 : Try.f32.results.toList = [.tmp 4] := rfl
theorem M32 : Try.f32.ntmps = 82 := rfl
noncomputable def g32 : Func := Try.f32
theorem U32 : Try.f32.body = some (cq g32 []) := rfl
theorem R33 : Try.f33.results.toList = [.tmp 4] := rfl
theorem M33 : Try.f33.ntmps = 12 := rfl
noncomputable def g33 : Func := Try.f33
theorem U33 : Try.f33.body = some (cq g33 []) := rfl
theorem R34 : Try.f34.results.toList = [.tmp 4] := rfl
theorem M34 : Try.f34.ntmps = 27 := rfl
noncomputable def g34 : Func := Try.f34
theorem U34 : Try.f34.body = some (cq g34 []) := rfl
theorem R35 : Try.f35.results.toList = [.tmp 4] := rfl
theorem M35 : Try.f35.ntmps = 27 := rfl
noncomputable def g35 : Func := Try.f35
theorem U35 : Try.f35.body = some (cq g35 []) := rfl
theorem R36 : Try.f36.results.toList = [.tmp 4] := rfl
theorem M36 : Try.f36.ntmps = 18 := rfl
noncomputable def g36 : Func := Try.f36
theorem U36 : Try.f36.body = some (cq g36 []) := rfl
theorem R37 : Try.f37.results.toList = [.cell 2 40] := rfl
theorem M37 : Try.f37.ntmps = 14 := rfl
noncomputable def g37 : Func := Try.f37
theorem U37 : Try.f37.body = some (cq g37 []) := rfl
theorem R38 : Try.f38.results.toList = [.tmp 2] := rfl
theorem M38 : Try.f38.ntmps = 23 := rfl
noncomputable def g38 : Func := Try.f38
theorem U38 : Try.f38.body = some (cq g38 []) := rfl
theorem R39 : Try.f39.results.toList = [.tmp 2] := rfl
theorem M39 : Try.f39.ntmps = 23 := rfl
noncomputable def g39 : Func := Try.f39
theorem U39 : Try.f39.body = some (cq g39 []) := rfl
theorem R40 : Try.f40.results.toList = [.tmp 2] := rfl
theorem M40 : Try.f40.ntmps = 23 := rfl
noncomputable def g40 : Func := Try.f40
theorem U40 : Try.f40.body = some (cq g40 []) := rfl
theorem R41 : Try.f41.results.toList = [.cell 2 73] := rfl
theorem M41 : Try.f41.ntmps = 22 := rfl
noncomputable def g41 : Func := Try.f41
theorem U41 : Try.f41.body = some (cq g41 []) := rfl
theorem R42 : Try.f42.results.toList = [.cell 2 36] := rfl
theorem M42 : Try.f42.ntmps = 13 := rfl
noncomputable def g42 : Func := Try.f42
theorem U42 : Try.f42.body = some (cq g42 []) := rfl
theorem R43 : Try.f43.results.toList = [.tmp 2] := rfl
theorem M43 : Try.f43.ntmps = 6 := rfl
noncomputable def g43 : Func := Try.f43
theorem U43 : Try.f43.body = some (cq g43 []) := rfl
theorem R44 : Try.f44.results.toList = [.cell 2 40] := rfl
theorem M44 : Try.f44.ntmps = 14 := rfl
noncomputable def g44 : Func := Try.f44
theorem U44 : Try.f44.body = some (cq g44 []) := rfl
theorem R45 : Try.f45.results.toList = [.tmp 4] := rfl
theorem M45 : Try.f45.ntmps = 27 := rfl
noncomputable def g45 : Func := Try.f45
theorem U45 : Try.f45.body = some (cq g45 []) := rfl
theorem R46 : Try.f46.results.toList = [.tmp 4] := rfl
theorem M46 : Try.f46.ntmps = 27 := rfl
noncomputable def g46 : Func := Try.f46
theorem U46 : Try.f46.body = some (cq g46 []) := rfl
theorem R47 : Try.f47.results.toList = [.tmp 4] := rfl
theorem M47 : Try.f47.ntmps = 27 := rfl
noncomputable def g47 : Func := Try.f47
theorem U47 : Try.f47.body = some (cq g47 []) := rfl
theorem R48 : Try.f48.results.toList = [.tmp 4] := rfl
theorem M48 : Try.f48.ntmps = 32 := rfl
noncomputable def g48 : Func := Try.f48
theorem U48 : Try.f48.body = some (cq g48 []) := rfl
theorem R49 : Try.f49.results.toList = [.tmp 4] := rfl
theorem M49 : Try.f49.ntmps = 27 := rfl
noncomputable def g49 : Func := Try.f49
theorem U49 : Try.f49.body = some (cq g49 []) := rfl
theorem R50 : Try.f50.results.toList = [.tmp 2] := rfl
theorem M50 : Try.f50.ntmps = 20 := rfl
noncomputable def g50 : Func := Try.f50
theorem U50 : Try.f50.body = some (cq g50 []) := rfl
theorem R51 : Try.f51.results.toList = [.tmp 4] := rfl
theorem M51 : Try.f51.ntmps = 29 := rfl
noncomputable def g51 : Func := Try.f51
theorem U51 : Try.f51.body = some (cq g51 []) := rfl
theorem R52 : Try.f52.results.toList = [.tmp 4] := rfl
theorem M52 : Try.f52.ntmps = 37 := rfl
noncomputable def g52 : Func := Try.f52
theorem U52 : Try.f52.body = some (cq g52 []) := rfl
theorem R53 : Try.f53.results.toList = [.tmp 4] := rfl
theorem M53 : Try.f53.ntmps = 31 := rfl
noncomputable def g53 : Func := Try.f53
theorem U53 : Try.f53.body = some (cq g53 []) := rfl
theorem R54 : Try.f54.results.toList = [.tmp 4] := rfl
theorem M54 : Try.f54.ntmps = 33 := rfl
noncomputable def g54 : Func := Try.f54
theorem U54 : Try.f54.body = some (cq g54 []) := rfl
theorem R55 : Try.f55.results.toList = [.tmp 4] := rfl
theorem M55 : Try.f55.ntmps = 43 := rfl
noncomputable def g55 : Func := Try.f55
theorem U55 : Try.f55.body = some (cq g55 []) := rfl
theorem R56 : Try.f56.results.toList = [.tmp 4] := rfl
theorem M56 : Try.f56.ntmps = 20 := rfl
noncomputable def g56 : Func := Try.f56
theorem U56 : Try.f56.body = some (cq g56 []) := rfl
theorem R57 : Try.f57.results.toList = [.tmp 4] := rfl
theorem M57 : Try.f57.ntmps = 27 := rfl
noncomputable def g57 : Func := Try.f57
theorem U57 : Try.f57.body = some (cq g57 []) := rfl
theorem R58 : Try.f58.results.toList = [.cell 2 94] := rfl
theorem M58 : Try.f58.ntmps = 11 := rfl
noncomputable def g58 : Func := Try.f58
theorem U58 : Try.f58.body = some (cq g58 []) := rfl
theorem R59 : Try.f59.results.toList = [.cell 2 97] := rfl
theorem M59 : Try.f59.ntmps = 11 := rfl
noncomputable def g59 : Func := Try.f59
theorem U59 : Try.f59.body = some (cq g59 []) := rfl
theorem R60 : Try.f60.results.toList = [.cell 2 99] := rfl
theorem M60 : Try.f60.ntmps = 14 := rfl
noncomputable def g60 : Func := Try.f60
theorem U60 : Try.f60.body = some (cq g60 []) := rfl
theorem R61 : Try.f61.results.toList = [.tmp 4] := rfl
theorem M61 : Try.f61.ntmps = 15 := rfl
noncomputable def g61 : Func := Try.f61
theorem U61 : Try.f61.body = some (cq g61 []) := rfl
theorem R62 : Try.f62.results.toList = [.tmp 4] := rfl
theorem M62 : Try.f62.ntmps = 15 := rfl
noncomputable def g62 : Func := Try.f62
theorem U62 : Try.f62.body = some (cq g62 []) := rfl
theorem R63 : Try.f63.results.toList = [.tmp 4] := rfl
theorem M63 : Try.f63.ntmps = 20 := rfl
noncomputable def g63 : Func := Try.f63
theorem U63 : Try.f63.body = some (cq g63 []) := rfl
abbrev QS (n : FuncId) (g : Func) (p : List Nat) : Prop := ∀ {call : Call} {α : Type} {F : Ex → St → Option α} {ks : List Kt} {st : St}, runK Try.prog T call n F (cq g p) st ks = runK Try.prog T call n F (cq g (0 :: p)) st (.seq (cq g (1 :: p)) :: ks)
theorem qS {n : FuncId} {g : Func} {p : List Nat} (h : cq g p = .seq (cq g (0 :: p)) (cq g (1 :: p))) : QS n g p := run_seq h
abbrev QB (n : FuncId) (g : Func) (p : List Nat) (i : Nat) : Prop := ∀ {call : Call} {α : Type} {F : Ex → St → Option α} {ks : List Kt} {st : St}, runK Try.prog T call n F (cq g p) st ks = runK Try.prog T call n F (cq g (0 :: p)) st (.blk i :: ks)
theorem qB {n : FuncId} {g : Func} {p : List Nat} {i : Nat} (h : cq g p = .block i (cq g (0 :: p))) : QB n g p i := run_block h
abbrev QC (n : FuncId) (g : Func) (p : List Nat) (i : Nat) : Prop := ∀ {call : Call} {α : Type} {F : Ex → St → Option α} {ks : List Kt} {st : St}, runK Try.prog T call n F (cq g p) st ks = condK Try.prog T call n F (cq g (0 :: p)) (cq g (1 :: p)) st ks (evA st.tm (.tmp i))
theorem qC {n : FuncId} {g : Func} {p : List Nat} {i : Nat} (h : cq g p = .cond (.tmp i) (cq g (0 :: p)) (cq g (1 :: p))) : QC n g p i := run_cond h
abbrev QL (n : FuncId) (g : Func) (p : List Nat) (k : Nat) : Prop := (∀ {call : Call} {α : Type} {F : Ex → St → Option α} {ks : List Kt} {st : St}, runK Try.prog T call n F (cq g p) st ks = lopK Try.prog T call n F ks (loopC Try.prog T call n (cq g (0 :: p)) (canon (T.keep n k) st))) ∧
  (∀ {call : Call} {st : St}, contF Try.prog T call n (cq g (0 :: p)) .normal st = loopC Try.prog T call n (cq g (0 :: p)) (canon (T.keep n k) st)) ∧
  (∀ {call : Call} {st : St} {i : Nat}, contF Try.prog T call n (cq g (0 :: p)) (.exit i) st = some (.exit i, canon (T.out n k) st)) ∧
  (∀ {call : Call} {st : St}, contF Try.prog T call n (cq g (0 :: p)) .ret st = some (.ret, canon (T.out n k) st))
theorem qL {n : FuncId} {g : Func} {p : List Nat} {k : Nat} (h : cq g p = .loop (cq g (0 :: p))) (hk : firstReg (cq g (0 :: p)) = k) : QL n g p k := ⟨run_loop h hk, cont_normal hk, cont_exit hk, cont_ret hk⟩
abbrev QD (n : FuncId) (g : Func) (p : List Nat) (m : Nat) : Prop := ∀ {call : Call} {α : Type} {F : Ex → St → Option α} {ks : List Kt} {st : St}, runK Try.prog T call n F (cq g p) st ks = drwK Try.prog T call n F (opsOf (cq g p)) (List.range m) m st ks (drawGo Try.prog T.lend call (opsOf (cq g p)) st.next (List.range m) st.tm st.h [])
theorem qD {n : FuncId} {g : Func} {p : List Nat} {m : Nat} {id : Nat} {ops : Array Oper} (h : cq g p = .region id ops true) (hn : (opsOf (cq g p)).length = m) (hf : T.frz n id = []) (hp : T.pre n id = []) : QD n g p m := run_draw h hf hp rfl (by rw [← hn, h]; rfl)
abbrev QR (n : FuncId) (g : Func) (p : List Nat) (m : Nat) : Prop := ∀ {call : Call} {α : Type} {F : Ex → St → Option α} {ks : List Kt} {st : St}, runK Try.prog T call n F (cq g p) st ks = regK Try.prog T call n F m st ks (opsA Try.prog T.lend call (opsOf (cq g p)) st.next 0 (opsOf (cq g p)) st.tm st.h)
theorem qR {n : FuncId} {g : Func} {p : List Nat} {m : Nat} {id : Nat} {ops : Array Oper} (h : cq g p = .region id ops false) (hn : (opsOf (cq g p)).length = m) (hf : T.frz n id = []) (hp : T.pre n id = []) : QR n g p m := by
  intro call α F ks st
  rw [run_region h hf hp, hn]
noncomputable def preR {α : Type} (call : Call) (n : FuncId) (F : Ex → St → Option α) (c : Code) (m : Nat) (ks : List Kt) (o : Option St) : Option α := preK (fun s => regK Try.prog T call n F m s ks (opsA Try.prog T.lend call (opsOf c) s.next 0 (opsOf c) s.tm s.h)) o
theorem preR_some {call : Call} {n : FuncId} {α : Type} {F : Ex → St → Option α} {c : Code} {m : Nat} {ks : List Kt} {s : St} : preR call n F c m ks (some s) = regK Try.prog T call n F m s ks (opsA Try.prog T.lend call (opsOf c) s.next 0 (opsOf c) s.tm s.h) := rfl
noncomputable def preD {α : Type} (call : Call) (n : FuncId) (F : Ex → St → Option α) (c : Code) (m : Nat) (ks : List Kt) (o : Option St) : Option α := preK (fun s => drwK Try.prog T call n F (opsOf c) (List.range m) m s ks (drawGo Try.prog T.lend call (opsOf c) s.next (List.range m) s.tm s.h [])) o
theorem preD_some {call : Call} {n : FuncId} {α : Type} {F : Ex → St → Option α} {c : Code} {m : Nat} {ks : List Kt} {s : St} : preD call n F c m ks (some s) = drwK Try.prog T call n F (opsOf c) (List.range m) m s ks (drawGo Try.prog T.lend call (opsOf c) s.next (List.range m) s.tm s.h []) := rfl
abbrev QRP (n : FuncId) (g : Func) (p : List Nat) (m : Nat) (fr : List Nat) (ps : List Pre) : Prop := ∀ {call : Call} {α : Type} {F : Ex → St → Option α} {ks : List Kt} {st : St}, runK Try.prog T call n F (cq g p) st ks = preR call n F (cq g p) m ks (preA ps (frzSt fr st))
theorem qRP {n : FuncId} {g : Func} {p : List Nat} {m : Nat} {id : Nat} {ops : Array Oper} {fr : List Nat} {ps : List Pre} (h : cq g p = .region id ops false) (hn : (opsOf (cq g p)).length = m) (hf : T.frz n id = fr) (hp : T.pre n id = ps) : QRP n g p m fr ps := by
  intro call α F ks st
  rw [run_regionP h hf hp, hn]; rfl
abbrev QDP (n : FuncId) (g : Func) (p : List Nat) (m : Nat) (fr : List Nat) (ps : List Pre) : Prop := ∀ {call : Call} {α : Type} {F : Ex → St → Option α} {ks : List Kt} {st : St}, runK Try.prog T call n F (cq g p) st ks = preD call n F (cq g p) m ks (preA ps (frzSt fr st))
theorem qDP {n : FuncId} {g : Func} {p : List Nat} {m : Nat} {id : Nat} {ops : Array Oper} {fr : List Nat} {ps : List Pre} (h : cq g p = .region id ops true) (hn : (opsOf (cq g p)).length = m) (hf : T.frz n id = fr) (hp : T.pre n id = ps) : QDP n g p m fr ps := by
  intro call α F ks st
  exact run_drawP h hf hp rfl (by rw [← hn, h]; rfl)
theorem nestT : nestB T.lend = true := rfl
abbrev QK (n : FuncId) (g : Func) (p : List Nat) : Prop := ∀ {call : Call} {α : Type} {F : Ex → St → Option α} {ks : List Kt} {st : St}, runK Try.prog T call n F (cq g p) st ks = popK Try.prog T call n F ks .normal st
theorem qK {n : FuncId} {g : Func} {p : List Nat} (h : cq g p = .skip) : QK n g p := run_skip h
abbrev QT (n : FuncId) (g : Func) (p : List Nat) : Prop := ∀ {call : Call} {α : Type} {F : Ex → St → Option α} {ks : List Kt} {st : St}, runK Try.prog T call n F (cq g p) st ks = popK Try.prog T call n F ks .ret st
theorem qT {n : FuncId} {g : Func} {p : List Nat} (h : cq g p = .ret) : QT n g p := run_ret h
abbrev QX (n : FuncId) (g : Func) (p : List Nat) (i : Nat) : Prop := ∀ {call : Call} {α : Type} {F : Ex → St → Option α} {ks : List Kt} {st : St}, runK Try.prog T call n F (cq g p) st ks = popK Try.prog T call n F ks (.exit i) st
theorem qX {n : FuncId} {g : Func} {p : List Nat} {i : Nat} (h : cq g p = .exit i) : QX n g p i := run_exit h
theorem q3_ : QS 3 g3 [] := qS rfl
theorem q3_0 : QR 3 g3 [0] 2 := qR rfl rfl rfl rfl
theorem q3_1 : QS 3 g3 [1] := qS rfl
theorem q3_10 : QR 3 g3 [0, 1] 1 := qR rfl rfl rfl rfl
theorem q3_11 : QS 3 g3 [1, 1] := qS rfl
theorem q3_110 : QR 3 g3 [0, 1, 1] 4 := qR rfl rfl rfl rfl
theorem q3_111 : QS 3 g3 [1, 1, 1] := qS rfl
theorem q3_1110 : QS 3 g3 [0, 1, 1, 1] := qS rfl
theorem q3_11100 : QR 3 g3 [0, 0, 1, 1, 1] 2 := qR rfl rfl rfl rfl
theorem q3_11101 : QC 3 g3 [1, 0, 1, 1, 1] 17 := qC rfl
theorem q3_111010 : QS 3 g3 [0, 1, 0, 1, 1, 1] := qS rfl
theorem q3_1110100 : QR 3 g3 [0, 0, 1, 0, 1, 1, 1] 1 := qR rfl rfl rfl rfl
theorem q3_1110101 : QT 3 g3 [1, 0, 1, 0, 1, 1, 1] := qT rfl
theorem q3_111011 : QK 3 g3 [1, 1, 0, 1, 1, 1] := qK rfl
theorem q3_1111 : QS 3 g3 [1, 1, 1, 1] := qS rfl
theorem q3_11110 : QR 3 g3 [0, 1, 1, 1, 1] 6 := qR rfl rfl rfl rfl
theorem q3_11111 : QS 3 g3 [1, 1, 1, 1, 1] := qS rfl
theorem q3_111110 : QR 3 g3 [0, 1, 1, 1, 1, 1] 4 := qR rfl rfl rfl rfl
theorem q3_111111 : QS 3 g3 [1, 1, 1, 1, 1, 1] := qS rfl
theorem q3_1111110 : QR 3 g3 [0, 1, 1, 1, 1, 1, 1] 5 := qR rfl rfl rfl rfl
theorem q3_1111111 : QS 3 g3 [1, 1, 1, 1, 1, 1, 1] := qS rfl
theorem q3_11111110 : QS 3 g3 [0, 1, 1, 1, 1, 1, 1, 1] := qS rfl
theorem q3_111111100 : QR 3 g3 [0, 0, 1, 1, 1, 1, 1, 1, 1] 4 := qR rfl rfl rfl rfl
theorem q3_111111101 : QC 3 g3 [1, 0, 1, 1, 1, 1, 1, 1, 1] 30 := qC rfl
theorem q3_1111111010 : QS 3 g3 [0, 1, 0, 1, 1, 1, 1, 1, 1, 1] := qS rfl
theorem q3_11111110100 : QR 3 g3 [0, 0, 1, 0, 1, 1, 1, 1, 1, 1, 1] 1 := qR rfl rfl rfl rfl
theorem q3_11111110101 : QT 3 g3 [1, 0, 1, 0, 1, 1, 1, 1, 1, 1, 1] := qT rfl
theorem q3_1111111011 : QK 3 g3 [1, 1, 0, 1, 1, 1, 1, 1, 1, 1] := qK rfl
theorem q3_11111111 : QS 3 g3 [1, 1, 1, 1, 1, 1, 1, 1] := qS rfl
theorem q3_111111110 : QS 3 g3 [0, 1, 1, 1, 1, 1, 1, 1, 1] := qS rfl
theorem q3_1111111100 : QD 3 g3 [0, 0, 1, 1, 1, 1, 1, 1, 1, 1] 5 := qD rfl rfl rfl rfl
theorem q3_1111111101 : QC 3 g3 [1, 0, 1, 1, 1, 1, 1, 1, 1, 1] 35 := qC rfl
theorem q3_11111111010 : QS 3 g3 [0, 1, 0, 1, 1, 1, 1, 1, 1, 1, 1] := qS rfl
theorem q3_111111110100 : QR 3 g3 [0, 0, 1, 0, 1, 1, 1, 1, 1, 1, 1, 1] 1 := qR rfl rfl rfl rfl
theorem q3_111111110101 : QT 3 g3 [1, 0, 1, 0, 1, 1, 1, 1, 1, 1, 1, 1] := qT rfl
theorem q3_11111111011 : QK 3 g3 [1, 1, 0, 1, 1, 1, 1, 1, 1, 1, 1] := qK rfl
theorem q3_111111111 : QS 3 g3 [1, 1, 1, 1, 1, 1, 1, 1, 1] := qS rfl
theorem q3_1111111110 : QR 3 g3 [0, 1, 1, 1, 1, 1, 1, 1, 1, 1] 1 := qR rfl rfl rfl rfl
theorem q3_1111111111 : QS 3 g3 [1, 1, 1, 1, 1, 1, 1, 1, 1, 1] := qS rfl
theorem q3_11111111110 : QR 3 g3 [0, 1, 1, 1, 1, 1, 1, 1, 1, 1, 1] 4 := qR rfl rfl rfl rfl
theorem q3_11111111111 : QS 3 g3 [1, 1, 1, 1, 1, 1, 1, 1, 1, 1, 1] := qS rfl
theorem q3_111111111110 : QS 3 g3 [0, 1, 1, 1, 1, 1, 1, 1, 1, 1, 1, 1] := qS rfl
theorem q3_1111111111100 : QR 3 g3 [0, 0, 1, 1, 1, 1, 1, 1, 1, 1, 1, 1, 1] 8 := qR rfl rfl rfl rfl
theorem q3_1111111111101 : QC 3 g3 [1, 0, 1, 1, 1, 1, 1, 1, 1, 1, 1, 1, 1] 46 := qC rfl
theorem q3_11111111111010 : QS 3 g3 [0, 1, 0, 1, 1, 1, 1, 1, 1, 1, 1, 1, 1, 1] := qS rfl
theorem q3_111111111110100 : QR 3 g3 [0, 0, 1, 0, 1, 1, 1, 1, 1, 1, 1, 1, 1, 1, 1] 1 := qR rfl rfl rfl rfl
theorem q3_111111111110101 : QT 3 g3 [1, 0, 1, 0, 1, 1, 1, 1, 1, 1, 1, 1, 1, 1, 1] := qT rfl
theorem q3_11111111111011 : QK 3 g3 [1, 1, 0, 1, 1, 1, 1, 1, 1, 1, 1, 1, 1, 1] := qK rfl
theorem q3_111111111111 : QS 3 g3 [1, 1, 1, 1, 1, 1, 1, 1, 1, 1, 1, 1] := qS rfl
theorem q3_1111111111110 : QR 3 g3 [0, 1, 1, 1, 1, 1, 1, 1, 1, 1, 1, 1, 1] 1 := qR rfl rfl rfl rfl
theorem q3_1111111111111 : QS 3 g3 [1, 1, 1, 1, 1, 1, 1, 1, 1, 1, 1, 1, 1] := qS rfl
theorem q3_11111111111110 : QR 3 g3 [0, 1, 1, 1, 1, 1, 1, 1, 1, 1, 1, 1, 1, 1] 4 := qR rfl rfl rfl rfl
theorem q3_11111111111111 : QS 3 g3 [1, 1, 1, 1, 1, 1, 1, 1, 1, 1, 1, 1, 1, 1] := qS rfl
theorem q3_111111111111110 : QR 3 g3 [0, 1, 1, 1, 1, 1, 1, 1, 1, 1, 1, 1, 1, 1, 1] 1 := qR rfl rfl rfl rfl
theorem q3_111111111111111 : QS 3 g3 [1, 1, 1, 1, 1, 1, 1, 1, 1, 1, 1, 1, 1, 1, 1] := qS rfl
theorem q3_1111111111111110 : QR 3 g3 [0, 1, 1, 1, 1, 1, 1, 1, 1, 1, 1, 1, 1, 1, 1, 1] 4 := qR rfl rfl rfl rfl
theorem q3_1111111111111111 : QS 3 g3 [1, 1, 1, 1, 1, 1, 1, 1, 1, 1, 1, 1, 1, 1, 1, 1] := qS rfl
theorem q3_11111111111111110 : QS 3 g3 [0, 1, 1, 1, 1, 1, 1, 1, 1, 1, 1, 1, 1, 1, 1, 1, 1] := qS rfl
theorem q3_111111111111111100 : QR 3 g3 [0, 0, 1, 1, 1, 1, 1, 1, 1, 1, 1, 1, 1, 1, 1, 1, 1, 1] 2 := qR rfl rfl rfl rfl
theorem q3_111111111111111101 : QC 3 g3 [1, 0, 1, 1, 1, 1, 1, 1, 1, 1, 1, 1, 1, 1, 1, 1, 1, 1] 54 := qC rfl
theorem q3_1111111111111111010 : QS 3 g3 [0, 1, 0, 1, 1, 1, 1, 1, 1, 1, 1, 1, 1, 1, 1, 1, 1, 1, 1] := qS rfl
theorem q3_11111111111111110100 : QR 3 g3 [0, 0, 1, 0, 1, 1, 1, 1, 1, 1, 1, 1, 1, 1, 1, 1, 1, 1, 1, 1] 1 := qR rfl rfl rfl rfl
theorem q3_11111111111111110101 : QT 3 g3 [1, 0, 1, 0, 1, 1, 1, 1, 1, 1, 1, 1, 1, 1, 1, 1, 1, 1, 1, 1] := qT rfl
theorem q3_1111111111111111011 : QK 3 g3 [1, 1, 0, 1, 1, 1, 1, 1, 1, 1, 1, 1, 1, 1, 1, 1, 1, 1, 1] := qK rfl
theorem q3_11111111111111111 : QS 3 g3 [1, 1, 1, 1, 1, 1, 1, 1, 1, 1, 1, 1, 1, 1, 1, 1, 1] := qS rfl
theorem q3_111111111111111110 : QS 3 g3 [0, 1, 1, 1, 1, 1, 1, 1, 1, 1, 1, 1, 1, 1, 1, 1, 1, 1] := qS rfl
theorem q3_1111111111111111100 : QR 3 g3 [0, 0, 1, 1, 1, 1, 1, 1, 1, 1, 1, 1, 1, 1, 1, 1, 1, 1, 1] 3 := qR rfl rfl rfl rfl
theorem q3_1111111111111111101 : QC 3 g3 [1, 0, 1, 1, 1, 1, 1, 1, 1, 1, 1, 1, 1, 1, 1, 1, 1, 1, 1] 57 := qC rfl
theorem q3_11111111111111111010 : QS 3 g3 [0, 1, 0, 1, 1, 1, 1, 1, 1, 1, 1, 1, 1, 1, 1, 1, 1, 1, 1, 1] := qS rfl
theorem q3_111111111111111110100 : QR 3 g3 [0, 0, 1, 0, 1, 1, 1, 1, 1, 1, 1, 1, 1, 1, 1, 1, 1, 1, 1, 1, 1] 1 := qR rfl rfl rfl rfl
theorem q3_111111111111111110101 : QT 3 g3 [1, 0, 1, 0, 1, 1, 1, 1, 1, 1, 1, 1, 1, 1, 1, 1, 1, 1, 1, 1, 1] := qT rfl
theorem q3_11111111111111111011 : QK 3 g3 [1, 1, 0, 1, 1, 1, 1, 1, 1, 1, 1, 1, 1, 1, 1, 1, 1, 1, 1, 1] := qK rfl
theorem q3_111111111111111111 : QS 3 g3 [1, 1, 1, 1, 1, 1, 1, 1, 1, 1, 1, 1, 1, 1, 1, 1, 1, 1] := qS rfl
theorem q3_1111111111111111110 : QR 3 g3 [0, 1, 1, 1, 1, 1, 1, 1, 1, 1, 1, 1, 1, 1, 1, 1, 1, 1, 1] 6 := qR rfl rfl rfl rfl
theorem q3_1111111111111111111 : QS 3 g3 [1, 1, 1, 1, 1, 1, 1, 1, 1, 1, 1, 1, 1, 1, 1, 1, 1, 1, 1] := qS rfl
theorem q3_11111111111111111110 : QS 3 g3 [0, 1, 1, 1, 1, 1, 1, 1, 1, 1, 1, 1, 1, 1, 1, 1, 1, 1, 1, 1] := qS rfl
theorem q3_111111111111111111100 : QR 3 g3 [0, 0, 1, 1, 1, 1, 1, 1, 1, 1, 1, 1, 1, 1, 1, 1, 1, 1, 1, 1, 1] 4 := qR rfl rfl rfl rfl
theorem q3_111111111111111111101 : QC 3 g3 [1, 0, 1, 1, 1, 1, 1, 1, 1, 1, 1, 1, 1, 1, 1, 1, 1, 1, 1, 1, 1] 65 := qC rfl
theorem q3_1111111111111111111010 : QS 3 g3 [0, 1, 0, 1, 1, 1, 1, 1, 1, 1, 1, 1, 1, 1, 1, 1, 1, 1, 1, 1, 1, 1] := qS rfl
theorem q3_11111111111111111110100 : QR 3 g3 [0, 0, 1, 0, 1, 1, 1, 1, 1, 1, 1, 1, 1, 1, 1, 1, 1, 1, 1, 1, 1, 1, 1] 1 := qR rfl rfl rfl rfl
theorem q3_11111111111111111110101 : QT 3 g3 [1, 0, 1, 0, 1, 1, 1, 1, 1, 1, 1, 1, 1, 1, 1, 1, 1, 1, 1, 1, 1, 1, 1] := qT rfl
theorem q3_1111111111111111111011 : QK 3 g3 [1, 1, 0, 1, 1, 1, 1, 1, 1, 1, 1, 1, 1, 1, 1, 1, 1, 1, 1, 1, 1, 1] := qK rfl
theorem q3_11111111111111111111 : QS 3 g3 [1, 1, 1, 1, 1, 1, 1, 1, 1, 1, 1, 1, 1, 1, 1, 1, 1, 1, 1, 1] := qS rfl
theorem q3_111111111111111111110 : QR 3 g3 [0, 1, 1, 1, 1, 1, 1, 1, 1, 1, 1, 1, 1, 1, 1, 1, 1, 1, 1, 1, 1] 1 := qR rfl rfl rfl rfl
theorem q3_111111111111111111111 : QS 3 g3 [1, 1, 1, 1, 1, 1, 1, 1, 1, 1, 1, 1, 1, 1, 1, 1, 1, 1, 1, 1, 1] := qS rfl
theorem q3_1111111111111111111110 : QR 3 g3 [0, 1, 1, 1, 1, 1, 1, 1, 1, 1, 1, 1, 1, 1, 1, 1, 1, 1, 1, 1, 1, 1] 4 := qR rfl rfl rfl rfl
theorem q3_1111111111111111111111 : QS 3 g3 [1, 1, 1, 1, 1, 1, 1, 1, 1, 1, 1, 1, 1, 1, 1, 1, 1, 1, 1, 1, 1, 1] := qS rfl
theorem q3_11111111111111111111110 : QS 3 g3 [0, 1, 1, 1, 1, 1, 1, 1, 1, 1, 1, 1, 1, 1, 1, 1, 1, 1, 1, 1, 1, 1, 1] := qS rfl
theorem q3_111111111111111111111100 : QR 3 g3 [0, 0, 1, 1, 1, 1, 1, 1, 1, 1, 1, 1, 1, 1, 1, 1, 1, 1, 1, 1, 1, 1, 1, 1] 2 := qR rfl rfl rfl rfl
theorem q3_111111111111111111111101 : QC 3 g3 [1, 0, 1, 1, 1, 1, 1, 1, 1, 1, 1, 1, 1, 1, 1, 1, 1, 1, 1, 1, 1, 1, 1, 1] 70 := qC rfl
theorem q3_1111111111111111111111010 : QS 3 g3 [0, 1, 0, 1, 1, 1, 1, 1, 1, 1, 1, 1, 1, 1, 1, 1, 1, 1, 1, 1, 1, 1, 1, 1, 1] := qS rfl
theorem q3_11111111111111111111110100 : QR 3 g3 [0, 0, 1, 0, 1, 1, 1, 1, 1, 1, 1, 1, 1, 1, 1, 1, 1, 1, 1, 1, 1, 1, 1, 1, 1, 1] 1 := qR rfl rfl rfl rfl
theorem q3_11111111111111111111110101 : QT 3 g3 [1, 0, 1, 0, 1, 1, 1, 1, 1, 1, 1, 1, 1, 1, 1, 1, 1, 1, 1, 1, 1, 1, 1, 1, 1, 1] := qT rfl
theorem q3_1111111111111111111111011 : QK 3 g3 [1, 1, 0, 1, 1, 1, 1, 1, 1, 1, 1, 1, 1, 1, 1, 1, 1, 1, 1, 1, 1, 1, 1, 1, 1] := qK rfl
theorem q3_11111111111111111111111 : QS 3 g3 [1, 1, 1, 1, 1, 1, 1, 1, 1, 1, 1, 1, 1, 1, 1, 1, 1, 1, 1, 1, 1, 1, 1] := qS rfl
theorem q3_111111111111111111111110 : QS 3 g3 [0, 1, 1, 1, 1, 1, 1, 1, 1, 1, 1, 1, 1, 1, 1, 1, 1, 1, 1, 1, 1, 1, 1, 1] := qS rfl
theorem q3_1111111111111111111111100 : QR 3 g3 [0, 0, 1, 1, 1, 1, 1, 1, 1, 1, 1, 1, 1, 1, 1, 1, 1, 1, 1, 1, 1, 1, 1, 1, 1] 3 := qR rfl rfl rfl rfl
theorem q3_1111111111111111111111101 : QC 3 g3 [1, 0, 1, 1, 1, 1, 1, 1, 1, 1, 1, 1, 1, 1, 1, 1, 1, 1, 1, 1, 1, 1, 1, 1, 1] 73 := qC rfl
theorem q3_11111111111111111111111010 : QS 3 g3 [0, 1, 0, 1, 1, 1, 1, 1, 1, 1, 1, 1, 1, 1, 1, 1, 1, 1, 1, 1, 1, 1, 1, 1, 1, 1] := qS rfl
theorem q3_111111111111111111111110100 : QR 3 g3 [0, 0, 1, 0, 1, 1, 1, 1, 1, 1, 1, 1, 1, 1, 1, 1, 1, 1, 1, 1, 1, 1, 1, 1, 1, 1, 1] 1 := qR rfl rfl rfl rfl
theorem q3_111111111111111111111110101 : QT 3 g3 [1, 0, 1, 0, 1, 1, 1, 1, 1, 1, 1, 1, 1, 1, 1, 1, 1, 1, 1, 1, 1, 1, 1, 1, 1, 1, 1] := qT rfl
theorem q3_11111111111111111111111011 : QK 3 g3 [1, 1, 0, 1, 1, 1, 1, 1, 1, 1, 1, 1, 1, 1, 1, 1, 1, 1, 1, 1, 1, 1, 1, 1, 1, 1] := qK rfl
theorem q3_111111111111111111111111 : QS 3 g3 [1, 1, 1, 1, 1, 1, 1, 1, 1, 1, 1, 1, 1, 1, 1, 1, 1, 1, 1, 1, 1, 1, 1, 1] := qS rfl
theorem q3_1111111111111111111111110 : QR 3 g3 [0, 1, 1, 1, 1, 1, 1, 1, 1, 1, 1, 1, 1, 1, 1, 1, 1, 1, 1, 1, 1, 1, 1, 1, 1] 1 := qR rfl rfl rfl rfl
theorem q3_1111111111111111111111111 : QT 3 g3 [1, 1, 1, 1, 1, 1, 1, 1, 1, 1, 1, 1, 1, 1, 1, 1, 1, 1, 1, 1, 1, 1, 1, 1, 1] := qT rfl
theorem q4_ : QS 4 g4 [] := qS rfl
theorem q4_0 : QR 4 g4 [0] 2 := qR rfl rfl rfl rfl
theorem q4_1 : QS 4 g4 [1] := qS rfl
theorem q4_10 : QR 4 g4 [0, 1] 5 := qR rfl rfl rfl rfl
theorem q4_11 : QS 4 g4 [1, 1] := qS rfl
theorem q4_110 : QS 4 g4 [0, 1, 1] := qS rfl
theorem q4_1100 : QR 4 g4 [0, 0, 1, 1] 2 := qR rfl rfl rfl rfl
theorem q4_1101 : QC 4 g4 [1, 0, 1, 1] 10 := qC rfl
theorem q4_11010 : QS 4 g4 [0, 1, 0, 1, 1] := qS rfl
theorem q4_110100 : QR 4 g4 [0, 0, 1, 0, 1, 1] 1 := qR rfl rfl rfl rfl
theorem q4_110101 : QT 4 g4 [1, 0, 1, 0, 1, 1] := qT rfl
theorem q4_11011 : QK 4 g4 [1, 1, 0, 1, 1] := qK rfl
theorem q4_111 : QS 4 g4 [1, 1, 1] := qS rfl
theorem q4_1110 : QR 4 g4 [0, 1, 1, 1] 5 := qR rfl rfl rfl rfl
theorem q4_1111 : QS 4 g4 [1, 1, 1, 1] := qS rfl
theorem q4_11110 : QS 4 g4 [0, 1, 1, 1, 1] := qS rfl
theorem q4_111100 : QR 4 g4 [0, 0, 1, 1, 1, 1] 2 := qR rfl rfl rfl rfl
theorem q4_111101 : QC 4 g4 [1, 0, 1, 1, 1, 1] 16 := qC rfl
theorem q4_1111010 : QS 4 g4 [0, 1, 0, 1, 1, 1, 1] := qS rfl
theorem q4_11110100 : QR 4 g4 [0, 0, 1, 0, 1, 1, 1, 1] 1 := qR rfl rfl rfl rfl
theorem q4_11110101 : QT 4 g4 [1, 0, 1, 0, 1, 1, 1, 1] := qT rfl
theorem q4_1111011 : QK 4 g4 [1, 1, 0, 1, 1, 1, 1] := qK rfl
theorem q4_11111 : QS 4 g4 [1, 1, 1, 1, 1] := qS rfl
theorem q4_111110 : QR 4 g4 [0, 1, 1, 1, 1, 1] 5 := qR rfl rfl rfl rfl
theorem q4_111111 : QS 4 g4 [1, 1, 1, 1, 1, 1] := qS rfl
theorem q4_1111110 : QS 4 g4 [0, 1, 1, 1, 1, 1, 1] := qS rfl
theorem q4_11111100 : QR 4 g4 [0, 0, 1, 1, 1, 1, 1, 1] 2 := qR rfl rfl rfl rfl
theorem q4_11111101 : QC 4 g4 [1, 0, 1, 1, 1, 1, 1, 1] 22 := qC rfl
theorem q4_111111010 : QS 4 g4 [0, 1, 0, 1, 1, 1, 1, 1, 1] := qS rfl
theorem q4_1111110100 : QR 4 g4 [0, 0, 1, 0, 1, 1, 1, 1, 1, 1] 1 := qR rfl rfl rfl rfl
theorem q4_1111110101 : QT 4 g4 [1, 0, 1, 0, 1, 1, 1, 1, 1, 1] := qT rfl
theorem q4_111111011 : QK 4 g4 [1, 1, 0, 1, 1, 1, 1, 1, 1] := qK rfl
theorem q4_1111111 : QS 4 g4 [1, 1, 1, 1, 1, 1, 1] := qS rfl
theorem q4_11111110 : QR 4 g4 [0, 1, 1, 1, 1, 1, 1, 1] 5 := qR rfl rfl rfl rfl
theorem q4_11111111 : QS 4 g4 [1, 1, 1, 1, 1, 1, 1, 1] := qS rfl
theorem q4_111111110 : QS 4 g4 [0, 1, 1, 1, 1, 1, 1, 1, 1] := qS rfl
theorem q4_1111111100 : QR 4 g4 [0, 0, 1, 1, 1, 1, 1, 1, 1, 1] 2 := qR rfl rfl rfl rfl
theorem q4_1111111101 : QC 4 g4 [1, 0, 1, 1, 1, 1, 1, 1, 1, 1] 28 := qC rfl
theorem q4_11111111010 : QS 4 g4 [0, 1, 0, 1, 1, 1, 1, 1, 1, 1, 1] := qS rfl
theorem q4_111111110100 : QR 4 g4 [0, 0, 1, 0, 1, 1, 1, 1, 1, 1, 1, 1] 1 := qR rfl rfl rfl rfl
theorem q4_111111110101 : QT 4 g4 [1, 0, 1, 0, 1, 1, 1, 1, 1, 1, 1, 1] := qT rfl
theorem q4_11111111011 : QK 4 g4 [1, 1, 0, 1, 1, 1, 1, 1, 1, 1, 1] := qK rfl
theorem q4_111111111 : QS 4 g4 [1, 1, 1, 1, 1, 1, 1, 1, 1] := qS rfl
theorem q4_1111111110 : QR 4 g4 [0, 1, 1, 1, 1, 1, 1, 1, 1, 1] 5 := qR rfl rfl rfl rfl
theorem q4_1111111111 : QS 4 g4 [1, 1, 1, 1, 1, 1, 1, 1, 1, 1] := qS rfl
theorem q4_11111111110 : QS 4 g4 [0, 1, 1, 1, 1, 1, 1, 1, 1, 1, 1] := qS rfl
theorem q4_111111111100 : QR 4 g4 [0, 0, 1, 1, 1, 1, 1, 1, 1, 1, 1, 1] 2 := qR rfl rfl rfl rfl
theorem q4_111111111101 : QC 4 g4 [1, 0, 1, 1, 1, 1, 1, 1, 1, 1, 1, 1] 34 := qC rfl
theorem q4_1111111111010 : QS 4 g4 [0, 1, 0, 1, 1, 1, 1, 1, 1, 1, 1, 1, 1] := qS rfl
theorem q4_11111111110100 : QR 4 g4 [0, 0, 1, 0, 1, 1, 1, 1, 1, 1, 1, 1, 1, 1] 1 := qR rfl rfl rfl rfl
theorem q4_11111111110101 : QT 4 g4 [1, 0, 1, 0, 1, 1, 1, 1, 1, 1, 1, 1, 1, 1] := qT rfl
theorem q4_1111111111011 : QK 4 g4 [1, 1, 0, 1, 1, 1, 1, 1, 1, 1, 1, 1, 1] := qK rfl
theorem q4_11111111111 : QS 4 g4 [1, 1, 1, 1, 1, 1, 1, 1, 1, 1, 1] := qS rfl
theorem q4_111111111110 : QR 4 g4 [0, 1, 1, 1, 1, 1, 1, 1, 1, 1, 1, 1] 2 := qR rfl rfl rfl rfl
theorem q4_111111111111 : QT 4 g4 [1, 1, 1, 1, 1, 1, 1, 1, 1, 1, 1, 1] := qT rfl
theorem q5_ : QS 5 g5 [] := qS rfl
theorem q5_0 : QR 5 g5 [0] 2 := qR rfl rfl rfl rfl
theorem q5_1 : QS 5 g5 [1] := qS rfl
theorem q5_10 : QRP 5 g5 [0, 1] 4 [2] [] := qRP (n := 5) (g := g5) (p := [0, 1]) (m := 4) (id := 1) (fr := [2]) (ps := []) rfl rfl rfl rfl
theorem q5_11 : QS 5 g5 [1, 1] := qS rfl
theorem q5_110 : QR 5 g5 [0, 1, 1] 3 := qR rfl rfl rfl rfl
theorem q5_111 : QS 5 g5 [1, 1, 1] := qS rfl
theorem q5_1110 : QS 5 g5 [0, 1, 1, 1] := qS rfl
theorem q5_11100 : QR 5 g5 [0, 0, 1, 1, 1] 2 := qR rfl rfl rfl rfl
theorem q5_11101 : QC 5 g5 [1, 0, 1, 1, 1] 11 := qC rfl
theorem q5_111010 : QR 5 g5 [0, 1, 0, 1, 1, 1] 3 := qR rfl rfl rfl rfl
theorem q5_111011 : QK 5 g5 [1, 1, 0, 1, 1, 1] := qK rfl
theorem q5_1111 : QS 5 g5 [1, 1, 1, 1] := qS rfl
theorem q5_11110 : QR 5 g5 [0, 1, 1, 1, 1] 6 := qR rfl rfl rfl rfl
theorem q5_11111 : QS 5 g5 [1, 1, 1, 1, 1] := qS rfl
theorem q5_111110 : QR 5 g5 [0, 1, 1, 1, 1, 1] 2 := qR rfl rfl rfl rfl
theorem q5_111111 : QT 5 g5 [1, 1, 1, 1, 1, 1] := qT rfl
theorem q6_ : QS 6 g6 [] := qS rfl
theorem q6_0 : QR 6 g6 [0] 2 := qR rfl rfl rfl rfl
theorem q6_1 : QS 6 g6 [1] := qS rfl
theorem q6_10 : QR 6 g6 [0, 1] 1 := qR rfl rfl rfl rfl
theorem q6_11 : QS 6 g6 [1, 1] := qS rfl
theorem q6_110 : QR 6 g6 [0, 1, 1] 5 := qR rfl rfl rfl rfl
theorem q6_111 : QS 6 g6 [1, 1, 1] := qS rfl
theorem q6_1110 : QR 6 g6 [0, 1, 1, 1] 5 := qR rfl rfl rfl rfl
theorem q6_1111 : QS 6 g6 [1, 1, 1, 1] := qS rfl
theorem q6_11110 : QR 6 g6 [0, 1, 1, 1, 1] 5 := qR rfl rfl rfl rfl
theorem q6_11111 : QS 6 g6 [1, 1, 1, 1, 1] := qS rfl
theorem q6_111110 : QR 6 g6 [0, 1, 1, 1, 1, 1] 4 := qR rfl rfl rfl rfl
theorem q6_111111 : QS 6 g6 [1, 1, 1, 1, 1, 1] := qS rfl
theorem q6_1111110 : QR 6 g6 [0, 1, 1, 1, 1, 1, 1] 5 := qR rfl rfl rfl rfl
theorem q6_1111111 : QS 6 g6 [1, 1, 1, 1, 1, 1, 1] := qS rfl
theorem q6_11111110 : QR 6 g6 [0, 1, 1, 1, 1, 1, 1, 1] 4 := qR rfl rfl rfl rfl
theorem q6_11111111 : QS 6 g6 [1, 1, 1, 1, 1, 1, 1, 1] := qS rfl
theorem q6_111111110 : QR 6 g6 [0, 1, 1, 1, 1, 1, 1, 1, 1] 4 := qR rfl rfl rfl rfl
theorem q6_111111111 : QS 6 g6 [1, 1, 1, 1, 1, 1, 1, 1, 1] := qS rfl
theorem q6_1111111110 : QR 6 g6 [0, 1, 1, 1, 1, 1, 1, 1, 1, 1] 4 := qR rfl rfl rfl rfl
theorem q6_1111111111 : QS 6 g6 [1, 1, 1, 1, 1, 1, 1, 1, 1, 1] := qS rfl
theorem q6_11111111110 : QR 6 g6 [0, 1, 1, 1, 1, 1, 1, 1, 1, 1, 1] 5 := qR rfl rfl rfl rfl
theorem q6_11111111111 : QS 6 g6 [1, 1, 1, 1, 1, 1, 1, 1, 1, 1, 1] := qS rfl
theorem q6_111111111110 : QR 6 g6 [0, 1, 1, 1, 1, 1, 1, 1, 1, 1, 1, 1] 2 := qR rfl rfl rfl rfl
theorem q6_111111111111 : QT 6 g6 [1, 1, 1, 1, 1, 1, 1, 1, 1, 1, 1, 1] := qT rfl
theorem q7_ : QS 7 g7 [] := qS rfl
theorem q7_0 : QR 7 g7 [0] 2 := qR rfl rfl rfl rfl
theorem q7_1 : QS 7 g7 [1] := qS rfl
theorem q7_10 : QR 7 g7 [0, 1] 4 := qR rfl rfl rfl rfl
theorem q7_11 : QS 7 g7 [1, 1] := qS rfl
theorem q7_110 : QR 7 g7 [0, 1, 1] 9 := qR rfl rfl rfl rfl
theorem q7_111 : QS 7 g7 [1, 1, 1] := qS rfl
theorem q7_1110 : QR 7 g7 [0, 1, 1, 1] 2 := qR rfl rfl rfl rfl
theorem q7_1111 : QT 7 g7 [1, 1, 1, 1] := qT rfl
theorem q8_ : QS 8 g8 [] := qS rfl
theorem q8_0 : QR 8 g8 [0] 3 := qR rfl rfl rfl rfl
theorem q8_1 : QS 8 g8 [1] := qS rfl
theorem q8_10 : QS 8 g8 [0, 1] := qS rfl
theorem q8_100 : QR 8 g8 [0, 0, 1] 6 := qR rfl rfl rfl rfl
theorem q8_101 : QC 8 g8 [1, 0, 1] 10 := qC rfl
theorem q8_1010 : QS 8 g8 [0, 1, 0, 1] := qS rfl
theorem q8_10100 : QR 8 g8 [0, 0, 1, 0, 1] 1 := qR rfl rfl rfl rfl
theorem q8_10101 : QT 8 g8 [1, 0, 1, 0, 1] := qT rfl
theorem q8_1011 : QK 8 g8 [1, 1, 0, 1] := qK rfl
theorem q8_11 : QS 8 g8 [1, 1] := qS rfl
theorem q8_110 : QS 8 g8 [0, 1, 1] := qS rfl
theorem q8_1100 : QR 8 g8 [0, 0, 1, 1] 6 := qR rfl rfl rfl rfl
theorem q8_1101 : QC 8 g8 [1, 0, 1, 1] 16 := qC rfl
theorem q8_11010 : QS 8 g8 [0, 1, 0, 1, 1] := qS rfl
theorem q8_110100 : QR 8 g8 [0, 0, 1, 0, 1, 1] 1 := qR rfl rfl rfl rfl
theorem q8_110101 : QT 8 g8 [1, 0, 1, 0, 1, 1] := qT rfl
theorem q8_11011 : QK 8 g8 [1, 1, 0, 1, 1] := qK rfl
theorem q8_111 : QS 8 g8 [1, 1, 1] := qS rfl
theorem q8_1110 : QS 8 g8 [0, 1, 1, 1] := qS rfl
theorem q8_11100 : QR 8 g8 [0, 0, 1, 1, 1] 6 := qR rfl rfl rfl rfl
theorem q8_11101 : QC 8 g8 [1, 0, 1, 1, 1] 22 := qC rfl
theorem q8_111010 : QS 8 g8 [0, 1, 0, 1, 1, 1] := qS rfl
theorem q8_1110100 : QR 8 g8 [0, 0, 1, 0, 1, 1, 1] 1 := qR rfl rfl rfl rfl
theorem q8_1110101 : QT 8 g8 [1, 0, 1, 0, 1, 1, 1] := qT rfl
theorem q8_111011 : QK 8 g8 [1, 1, 0, 1, 1, 1] := qK rfl
theorem q8_1111 : QS 8 g8 [1, 1, 1, 1] := qS rfl
theorem q8_11110 : QS 8 g8 [0, 1, 1, 1, 1] := qS rfl
theorem q8_111100 : QR 8 g8 [0, 0, 1, 1, 1, 1] 5 := qR rfl rfl rfl rfl
theorem q8_111101 : QC 8 g8 [1, 0, 1, 1, 1, 1] 27 := qC rfl
theorem q8_1111010 : QS 8 g8 [0, 1, 0, 1, 1, 1, 1] := qS rfl
theorem q8_11110100 : QR 8 g8 [0, 0, 1, 0, 1, 1, 1, 1] 1 := qR rfl rfl rfl rfl
theorem q8_11110101 : QT 8 g8 [1, 0, 1, 0, 1, 1, 1, 1] := qT rfl
theorem q8_1111011 : QK 8 g8 [1, 1, 0, 1, 1, 1, 1] := qK rfl
theorem q8_11111 : QS 8 g8 [1, 1, 1, 1, 1] := qS rfl
theorem q8_111110 : QS 8 g8 [0, 1, 1, 1, 1, 1] := qS rfl
theorem q8_1111100 : QR 8 g8 [0, 0, 1, 1, 1, 1, 1] 6 := qR rfl rfl rfl rfl
theorem q8_1111101 : QC 8 g8 [1, 0, 1, 1, 1, 1, 1] 33 := qC rfl
theorem q8_11111010 : QS 8 g8 [0, 1, 0, 1, 1, 1, 1, 1] := qS rfl
theorem q8_111110100 : QR 8 g8 [0, 0, 1, 0, 1, 1, 1, 1, 1] 1 := qR rfl rfl rfl rfl
theorem q8_111110101 : QT 8 g8 [1, 0, 1, 0, 1, 1, 1, 1, 1] := qT rfl
theorem q8_11111011 : QK 8 g8 [1, 1, 0, 1, 1, 1, 1, 1] := qK rfl
theorem q8_111111 : QS 8 g8 [1, 1, 1, 1, 1, 1] := qS rfl
theorem q8_1111110 : QS 8 g8 [0, 1, 1, 1, 1, 1, 1] := qS rfl
theorem q8_11111100 : QR 8 g8 [0, 0, 1, 1, 1, 1, 1, 1] 5 := qR rfl rfl rfl rfl
theorem q8_11111101 : QC 8 g8 [1, 0, 1, 1, 1, 1, 1, 1] 38 := qC rfl
theorem q8_111111010 : QS 8 g8 [0, 1, 0, 1, 1, 1, 1, 1, 1] := qS rfl
theorem q8_1111110100 : QR 8 g8 [0, 0, 1, 0, 1, 1, 1, 1, 1, 1] 1 := qR rfl rfl rfl rfl
theorem q8_1111110101 : QT 8 g8 [1, 0, 1, 0, 1, 1, 1, 1, 1, 1] := qT rfl
theorem q8_111111011 : QK 8 g8 [1, 1, 0, 1, 1, 1, 1, 1, 1] := qK rfl
theorem q8_1111111 : QS 8 g8 [1, 1, 1, 1, 1, 1, 1] := qS rfl
theorem q8_11111110 : QS 8 g8 [0, 1, 1, 1, 1, 1, 1, 1] := qS rfl
theorem q8_111111100 : QR 8 g8 [0, 0, 1, 1, 1, 1, 1, 1, 1] 5 := qR rfl rfl rfl rfl
theorem q8_111111101 : QC 8 g8 [1, 0, 1, 1, 1, 1, 1, 1, 1] 43 := qC rfl
theorem q8_1111111010 : QS 8 g8 [0, 1, 0, 1, 1, 1, 1, 1, 1, 1] := qS rfl
theorem q8_11111110100 : QR 8 g8 [0, 0, 1, 0, 1, 1, 1, 1, 1, 1, 1] 1 := qR rfl rfl rfl rfl
theorem q8_11111110101 : QT 8 g8 [1, 0, 1, 0, 1, 1, 1, 1, 1, 1, 1] := qT rfl
theorem q8_1111111011 : QK 8 g8 [1, 1, 0, 1, 1, 1, 1, 1, 1, 1] := qK rfl
theorem q8_11111111 : QS 8 g8 [1, 1, 1, 1, 1, 1, 1, 1] := qS rfl
theorem q8_111111110 : QS 8 g8 [0, 1, 1, 1, 1, 1, 1, 1, 1] := qS rfl
theorem q8_1111111100 : QR 8 g8 [0, 0, 1, 1, 1, 1, 1, 1, 1, 1] 5 := qR rfl rfl rfl rfl
theorem q8_1111111101 : QC 8 g8 [1, 0, 1, 1, 1, 1, 1, 1, 1, 1] 48 := qC rfl
theorem q8_11111111010 : QS 8 g8 [0, 1, 0, 1, 1, 1, 1, 1, 1, 1, 1] := qS rfl
theorem q8_111111110100 : QR 8 g8 [0, 0, 1, 0, 1, 1, 1, 1, 1, 1, 1, 1] 1 := qR rfl rfl rfl rfl
theorem q8_111111110101 : QT 8 g8 [1, 0, 1, 0, 1, 1, 1, 1, 1, 1, 1, 1] := qT rfl
theorem q8_11111111011 : QK 8 g8 [1, 1, 0, 1, 1, 1, 1, 1, 1, 1, 1] := qK rfl
theorem q8_111111111 : QS 8 g8 [1, 1, 1, 1, 1, 1, 1, 1, 1] := qS rfl
theorem q8_1111111110 : QS 8 g8 [0, 1, 1, 1, 1, 1, 1, 1, 1, 1] := qS rfl
theorem q8_11111111100 : QR 8 g8 [0, 0, 1, 1, 1, 1, 1, 1, 1, 1, 1] 6 := qR rfl rfl rfl rfl
theorem q8_11111111101 : QC 8 g8 [1, 0, 1, 1, 1, 1, 1, 1, 1, 1, 1] 54 := qC rfl
theorem q8_111111111010 : QS 8 g8 [0, 1, 0, 1, 1, 1, 1, 1, 1, 1, 1, 1] := qS rfl
theorem q8_1111111110100 : QR 8 g8 [0, 0, 1, 0, 1, 1, 1, 1, 1, 1, 1, 1, 1] 1 := qR rfl rfl rfl rfl
theorem q8_1111111110101 : QT 8 g8 [1, 0, 1, 0, 1, 1, 1, 1, 1, 1, 1, 1, 1] := qT rfl
theorem q8_111111111011 : QK 8 g8 [1, 1, 0, 1, 1, 1, 1, 1, 1, 1, 1, 1] := qK rfl
theorem q8_1111111111 : QS 8 g8 [1, 1, 1, 1, 1, 1, 1, 1, 1, 1] := qS rfl
theorem q8_11111111110 : QR 8 g8 [0, 1, 1, 1, 1, 1, 1, 1, 1, 1, 1] 1 := qR rfl rfl rfl rfl
theorem q8_11111111111 : QT 8 g8 [1, 1, 1, 1, 1, 1, 1, 1, 1, 1, 1] := qT rfl
theorem q9_ : QS 9 g9 [] := qS rfl
theorem q9_0 : QR 9 g9 [0] 2 := qR rfl rfl rfl rfl
theorem q9_1 : QS 9 g9 [1] := qS rfl
theorem q9_10 : QR 9 g9 [0, 1] 5 := qR rfl rfl rfl rfl
theorem q9_11 : QS 9 g9 [1, 1] := qS rfl
theorem q9_110 : QR 9 g9 [0, 1, 1] 5 := qR rfl rfl rfl rfl
theorem q9_111 : QS 9 g9 [1, 1, 1] := qS rfl
theorem q9_1110 : QR 9 g9 [0, 1, 1, 1] 5 := qR rfl rfl rfl rfl
theorem q9_1111 : QS 9 g9 [1, 1, 1, 1] := qS rfl
theorem q9_11110 : QR 9 g9 [0, 1, 1, 1, 1] 5 := qR rfl rfl rfl rfl
theorem q9_11111 : QS 9 g9 [1, 1, 1, 1, 1] := qS rfl
theorem q9_111110 : QR 9 g9 [0, 1, 1, 1, 1, 1] 5 := qR rfl rfl rfl rfl
theorem q9_111111 : QS 9 g9 [1, 1, 1, 1, 1, 1] := qS rfl
theorem q9_1111110 : QR 9 g9 [0, 1, 1, 1, 1, 1, 1] 2 := qR rfl rfl rfl rfl
theorem q9_1111111 : QT 9 g9 [1, 1, 1, 1, 1, 1, 1] := qT rfl
theorem q10_ : QS 10 g10 [] := qS rfl
theorem q10_0 : QR 10 g10 [0] 2 := qR rfl rfl rfl rfl
theorem q10_1 : QS 10 g10 [1] := qS rfl
theorem q10_10 : QR 10 g10 [0, 1] 5 := qR rfl rfl rfl rfl
theorem q10_11 : QS 10 g10 [1, 1] := qS rfl
theorem q10_110 : QS 10 g10 [0, 1, 1] := qS rfl
theorem q10_1100 : QR 10 g10 [0, 0, 1, 1] 2 := qR rfl rfl rfl rfl
theorem q10_1101 : QC 10 g10 [1, 0, 1, 1] 10 := qC rfl
theorem q10_11010 : QS 10 g10 [0, 1, 0, 1, 1] := qS rfl
theorem q10_110100 : QR 10 g10 [0, 0, 1, 0, 1, 1] 1 := qR rfl rfl rfl rfl
theorem q10_110101 : QT 10 g10 [1, 0, 1, 0, 1, 1] := qT rfl
theorem q10_11011 : QK 10 g10 [1, 1, 0, 1, 1] := qK rfl
theorem q10_111 : QS 10 g10 [1, 1, 1] := qS rfl
theorem q10_1110 : QR 10 g10 [0, 1, 1, 1] 5 := qR rfl rfl rfl rfl
theorem q10_1111 : QS 10 g10 [1, 1, 1, 1] := qS rfl
theorem q10_11110 : QS 10 g10 [0, 1, 1, 1, 1] := qS rfl
theorem q10_111100 : QR 10 g10 [0, 0, 1, 1, 1, 1] 2 := qR rfl rfl rfl rfl
theorem q10_111101 : QC 10 g10 [1, 0, 1, 1, 1, 1] 16 := qC rfl
theorem q10_1111010 : QS 10 g10 [0, 1, 0, 1, 1, 1, 1] := qS rfl
theorem q10_11110100 : QR 10 g10 [0, 0, 1, 0, 1, 1, 1, 1] 1 := qR rfl rfl rfl rfl
theorem q10_11110101 : QT 10 g10 [1, 0, 1, 0, 1, 1, 1, 1] := qT rfl
theorem q10_1111011 : QK 10 g10 [1, 1, 0, 1, 1, 1, 1] := qK rfl
theorem q10_11111 : QS 10 g10 [1, 1, 1, 1, 1] := qS rfl
theorem q10_111110 : QR 10 g10 [0, 1, 1, 1, 1, 1] 5 := qR rfl rfl rfl rfl
theorem q10_111111 : QS 10 g10 [1, 1, 1, 1, 1, 1] := qS rfl
theorem q10_1111110 : QS 10 g10 [0, 1, 1, 1, 1, 1, 1] := qS rfl
theorem q10_11111100 : QR 10 g10 [0, 0, 1, 1, 1, 1, 1, 1] 2 := qR rfl rfl rfl rfl
theorem q10_11111101 : QC 10 g10 [1, 0, 1, 1, 1, 1, 1, 1] 22 := qC rfl
theorem q10_111111010 : QS 10 g10 [0, 1, 0, 1, 1, 1, 1, 1, 1] := qS rfl
theorem q10_1111110100 : QR 10 g10 [0, 0, 1, 0, 1, 1, 1, 1, 1, 1] 1 := qR rfl rfl rfl rfl
theorem q10_1111110101 : QT 10 g10 [1, 0, 1, 0, 1, 1, 1, 1, 1, 1] := qT rfl
theorem q10_111111011 : QK 10 g10 [1, 1, 0, 1, 1, 1, 1, 1, 1] := qK rfl
theorem q10_1111111 : QS 10 g10 [1, 1, 1, 1, 1, 1, 1] := qS rfl
theorem q10_11111110 : QR 10 g10 [0, 1, 1, 1, 1, 1, 1, 1] 5 := qR rfl rfl rfl rfl
theorem q10_11111111 : QS 10 g10 [1, 1, 1, 1, 1, 1, 1, 1] := qS rfl
theorem q10_111111110 : QS 10 g10 [0, 1, 1, 1, 1, 1, 1, 1, 1] := qS rfl
theorem q10_1111111100 : QR 10 g10 [0, 0, 1, 1, 1, 1, 1, 1, 1, 1] 2 := qR rfl rfl rfl rfl
theorem q10_1111111101 : QC 10 g10 [1, 0, 1, 1, 1, 1, 1, 1, 1, 1] 28 := qC rfl
theorem q10_11111111010 : QS 10 g10 [0, 1, 0, 1, 1, 1, 1, 1, 1, 1, 1] := qS rfl
theorem q10_111111110100 : QR 10 g10 [0, 0, 1, 0, 1, 1, 1, 1, 1, 1, 1, 1] 1 := qR rfl rfl rfl rfl
theorem q10_111111110101 : QT 10 g10 [1, 0, 1, 0, 1, 1, 1, 1, 1, 1, 1, 1] := qT rfl
theorem q10_11111111011 : QK 10 g10 [1, 1, 0, 1, 1, 1, 1, 1, 1, 1, 1] := qK rfl
theorem q10_111111111 : QS 10 g10 [1, 1, 1, 1, 1, 1, 1, 1, 1] := qS rfl
theorem q10_1111111110 : QR 10 g10 [0, 1, 1, 1, 1, 1, 1, 1, 1, 1] 5 := qR rfl rfl rfl rfl
theorem q10_1111111111 : QS 10 g10 [1, 1, 1, 1, 1, 1, 1, 1, 1, 1] := qS rfl
theorem q10_11111111110 : QS 10 g10 [0, 1, 1, 1, 1, 1, 1, 1, 1, 1, 1] := qS rfl
theorem q10_111111111100 : QR 10 g10 [0, 0, 1, 1, 1, 1, 1, 1, 1, 1, 1, 1] 2 := qR rfl rfl rfl rfl
theorem q10_111111111101 : QC 10 g10 [1, 0, 1, 1, 1, 1, 1, 1, 1, 1, 1, 1] 34 := qC rfl
theorem q10_1111111111010 : QS 10 g10 [0, 1, 0, 1, 1, 1, 1, 1, 1, 1, 1, 1, 1] := qS rfl
theorem q10_11111111110100 : QR 10 g10 [0, 0, 1, 0, 1, 1, 1, 1, 1, 1, 1, 1, 1, 1] 1 := qR rfl rfl rfl rfl
theorem q10_11111111110101 : QT 10 g10 [1, 0, 1, 0, 1, 1, 1, 1, 1, 1, 1, 1, 1, 1] := qT rfl
theorem q10_1111111111011 : QK 10 g10 [1, 1, 0, 1, 1, 1, 1, 1, 1, 1, 1, 1, 1] := qK rfl
theorem q10_11111111111 : QS 10 g10 [1, 1, 1, 1, 1, 1, 1, 1, 1, 1, 1] := qS rfl
theorem q10_111111111110 : QR 10 g10 [0, 1, 1, 1, 1, 1, 1, 1, 1, 1, 1, 1] 2 := qR rfl rfl rfl rfl
theorem q10_111111111111 : QT 10 g10 [1, 1, 1, 1, 1, 1, 1, 1, 1, 1, 1, 1] := qT rfl
theorem q11_ : QS 11 g11 [] := qS rfl
theorem q11_0 : QR 11 g11 [0] 2 := qR rfl rfl rfl rfl
theorem q11_1 : QS 11 g11 [1] := qS rfl
theorem q11_10 : QR 11 g11 [0, 1] 5 := qR rfl rfl rfl rfl
theorem q11_11 : QS 11 g11 [1, 1] := qS rfl
theorem q11_110 : QS 11 g11 [0, 1, 1] := qS rfl
theorem q11_1100 : QR 11 g11 [0, 0, 1, 1] 2 := qR rfl rfl rfl rfl
theorem q11_1101 : QC 11 g11 [1, 0, 1, 1] 10 := qC rfl
theorem q11_11010 : QS 11 g11 [0, 1, 0, 1, 1] := qS rfl
theorem q11_110100 : QR 11 g11 [0, 0, 1, 0, 1, 1] 1 := qR rfl rfl rfl rfl
theorem q11_110101 : QT 11 g11 [1, 0, 1, 0, 1, 1] := qT rfl
theorem q11_11011 : QK 11 g11 [1, 1, 0, 1, 1] := qK rfl
theorem q11_111 : QS 11 g11 [1, 1, 1] := qS rfl
theorem q11_1110 : QR 11 g11 [0, 1, 1, 1] 5 := qR rfl rfl rfl rfl
theorem q11_1111 : QS 11 g11 [1, 1, 1, 1] := qS rfl
theorem q11_11110 : QS 11 g11 [0, 1, 1, 1, 1] := qS rfl
theorem q11_111100 : QR 11 g11 [0, 0, 1, 1, 1, 1] 2 := qR rfl rfl rfl rfl
theorem q11_111101 : QC 11 g11 [1, 0, 1, 1, 1, 1] 16 := qC rfl
theorem q11_1111010 : QS 11 g11 [0, 1, 0, 1, 1, 1, 1] := qS rfl
theorem q11_11110100 : QR 11 g11 [0, 0, 1, 0, 1, 1, 1, 1] 1 := qR rfl rfl rfl rfl
theorem q11_11110101 : QT 11 g11 [1, 0, 1, 0, 1, 1, 1, 1] := qT rfl
theorem q11_1111011 : QK 11 g11 [1, 1, 0, 1, 1, 1, 1] := qK rfl
theorem q11_11111 : QS 11 g11 [1, 1, 1, 1, 1] := qS rfl
theorem q11_111110 : QR 11 g11 [0, 1, 1, 1, 1, 1] 2 := qR rfl rfl rfl rfl
theorem q11_111111 : QT 11 g11 [1, 1, 1, 1, 1, 1] := qT rfl
theorem q12_ : QS 12 g12 [] := qS rfl
theorem q12_0 : QR 12 g12 [0] 1 := qR rfl rfl rfl rfl
theorem q12_1 : QS 12 g12 [1] := qS rfl
theorem q12_10 : QR 12 g12 [0, 1] 5 := qR rfl rfl rfl rfl
theorem q12_11 : QS 12 g12 [1, 1] := qS rfl
theorem q12_110 : QS 12 g12 [0, 1, 1] := qS rfl
theorem q12_1100 : QR 12 g12 [0, 0, 1, 1] 2 := qR rfl rfl rfl rfl
theorem q12_1101 : QC 12 g12 [1, 0, 1, 1] 11 := qC rfl
theorem q12_11010 : QS 12 g12 [0, 1, 0, 1, 1] := qS rfl
theorem q12_110100 : QR 12 g12 [0, 0, 1, 0, 1, 1] 1 := qR rfl rfl rfl rfl
theorem q12_110101 : QT 12 g12 [1, 0, 1, 0, 1, 1] := qT rfl
theorem q12_11011 : QK 12 g12 [1, 1, 0, 1, 1] := qK rfl
theorem q12_111 : QS 12 g12 [1, 1, 1] := qS rfl
theorem q12_1110 : QS 12 g12 [0, 1, 1, 1] := qS rfl
theorem q12_11100 : QR 12 g12 [0, 0, 1, 1, 1] 1 := qR rfl rfl rfl rfl
theorem q12_11101 : QB 12 g12 [1, 0, 1, 1, 1] 0 := qB rfl
theorem q12_111010 : QL 12 g12 [0, 1, 0, 1, 1, 1] 5 := qL rfl rfl
theorem q12_1110100 : QS 12 g12 [0, 0, 1, 0, 1, 1, 1] := qS rfl
theorem q12_11101000 : QS 12 g12 [0, 0, 0, 1, 0, 1, 1, 1] := qS rfl
theorem q12_111010000 : QR 12 g12 [0, 0, 0, 0, 1, 0, 1, 1, 1] 4 := qR rfl rfl rfl rfl
theorem q12_111010001 : QC 12 g12 [1, 0, 0, 0, 1, 0, 1, 1, 1] 15 := qC rfl
theorem q12_1110100010 : QK 12 g12 [0, 1, 0, 0, 0, 1, 0, 1, 1, 1] := qK rfl
theorem q12_1110100011 : QX 12 g12 [1, 1, 0, 0, 0, 1, 0, 1, 1, 1] 0 := qX rfl
theorem q12_11101001 : QS 12 g12 [1, 0, 0, 1, 0, 1, 1, 1] := qS rfl
theorem q12_111010010 : QB 12 g12 [0, 1, 0, 0, 1, 0, 1, 1, 1] 1 := qB rfl
theorem q12_1110100100 : QS 12 g12 [0, 0, 1, 0, 0, 1, 0, 1, 1, 1] := qS rfl
theorem q12_11101001000 : QR 12 g12 [0, 0, 0, 1, 0, 0, 1, 0, 1, 1, 1] 8 := qR rfl rfl rfl rfl
theorem q12_11101001001 : QS 12 g12 [1, 0, 0, 1, 0, 0, 1, 0, 1, 1, 1] := qS rfl
theorem q12_111010010010 : QR 12 g12 [0, 1, 0, 0, 1, 0, 0, 1, 0, 1, 1, 1] 2 := qR rfl rfl rfl rfl
theorem q12_111010010011 : QC 12 g12 [1, 1, 0, 0, 1, 0, 0, 1, 0, 1, 1, 1] 26 := qC rfl
theorem q12_1110100100110 : QS 12 g12 [0, 1, 1, 0, 0, 1, 0, 0, 1, 0, 1, 1, 1] := qS rfl
theorem q12_11101001001100 : QR 12 g12 [0, 0, 1, 1, 0, 0, 1, 0, 0, 1, 0, 1, 1, 1] 1 := qR rfl rfl rfl rfl
theorem q12_11101001001101 : QT 12 g12 [1, 0, 1, 1, 0, 0, 1, 0, 0, 1, 0, 1, 1, 1] := qT rfl
theorem q12_1110100100111 : QK 12 g12 [1, 1, 1, 0, 0, 1, 0, 0, 1, 0, 1, 1, 1] := qK rfl
theorem q12_111010011 : QR 12 g12 [1, 1, 0, 0, 1, 0, 1, 1, 1] 3 := qR rfl rfl rfl rfl
theorem q12_1111 : QS 12 g12 [1, 1, 1, 1] := qS rfl
theorem q12_11110 : QR 12 g12 [0, 1, 1, 1, 1] 2 := qR rfl rfl rfl rfl
theorem q12_11111 : QT 12 g12 [1, 1, 1, 1, 1] := qT rfl
theorem q13_ : QS 13 g13 [] := qS rfl
theorem q13_0 : QR 13 g13 [0] 2 := qR rfl rfl rfl rfl
theorem q13_1 : QS 13 g13 [1] := qS rfl
theorem q13_10 : QR 13 g13 [0, 1] 5 := qR rfl rfl rfl rfl
theorem q13_11 : QS 13 g13 [1, 1] := qS rfl
theorem q13_110 : QS 13 g13 [0, 1, 1] := qS rfl
theorem q13_1100 : QR 13 g13 [0, 0, 1, 1] 2 := qR rfl rfl rfl rfl
theorem q13_1101 : QC 13 g13 [1, 0, 1, 1] 10 := qC rfl
theorem q13_11010 : QS 13 g13 [0, 1, 0, 1, 1] := qS rfl
theorem q13_110100 : QR 13 g13 [0, 0, 1, 0, 1, 1] 1 := qR rfl rfl rfl rfl
theorem q13_110101 : QT 13 g13 [1, 0, 1, 0, 1, 1] := qT rfl
theorem q13_11011 : QK 13 g13 [1, 1, 0, 1, 1] := qK rfl
theorem q13_111 : QS 13 g13 [1, 1, 1] := qS rfl
theorem q13_1110 : QR 13 g13 [0, 1, 1, 1] 5 := qR rfl rfl rfl rfl
theorem q13_1111 : QS 13 g13 [1, 1, 1, 1] := qS rfl
theorem q13_11110 : QS 13 g13 [0, 1, 1, 1, 1] := qS rfl
theorem q13_111100 : QR 13 g13 [0, 0, 1, 1, 1, 1] 2 := qR rfl rfl rfl rfl
theorem q13_111101 : QC 13 g13 [1, 0, 1, 1, 1, 1] 16 := qC rfl
theorem q13_1111010 : QS 13 g13 [0, 1, 0, 1, 1, 1, 1] := qS rfl
theorem q13_11110100 : QR 13 g13 [0, 0, 1, 0, 1, 1, 1, 1] 1 := qR rfl rfl rfl rfl
theorem q13_11110101 : QT 13 g13 [1, 0, 1, 0, 1, 1, 1, 1] := qT rfl
theorem q13_1111011 : QK 13 g13 [1, 1, 0, 1, 1, 1, 1] := qK rfl
theorem q13_11111 : QS 13 g13 [1, 1, 1, 1, 1] := qS rfl
theorem q13_111110 : QR 13 g13 [0, 1, 1, 1, 1, 1] 6 := qR rfl rfl rfl rfl
theorem q13_111111 : QS 13 g13 [1, 1, 1, 1, 1, 1] := qS rfl
theorem q13_1111110 : QS 13 g13 [0, 1, 1, 1, 1, 1, 1] := qS rfl
theorem q13_11111100 : QR 13 g13 [0, 0, 1, 1, 1, 1, 1, 1] 2 := qR rfl rfl rfl rfl
theorem q13_11111101 : QC 13 g13 [1, 0, 1, 1, 1, 1, 1, 1] 23 := qC rfl
theorem q13_111111010 : QS 13 g13 [0, 1, 0, 1, 1, 1, 1, 1, 1] := qS rfl
theorem q13_1111110100 : QR 13 g13 [0, 0, 1, 0, 1, 1, 1, 1, 1, 1] 1 := qR rfl rfl rfl rfl
theorem q13_1111110101 : QT 13 g13 [1, 0, 1, 0, 1, 1, 1, 1, 1, 1] := qT rfl
theorem q13_111111011 : QK 13 g13 [1, 1, 0, 1, 1, 1, 1, 1, 1] := qK rfl
theorem q13_1111111 : QS 13 g13 [1, 1, 1, 1, 1, 1, 1] := qS rfl
theorem q13_11111110 : QR 13 g13 [0, 1, 1, 1, 1, 1, 1, 1] 2 := qR rfl rfl rfl rfl
theorem q13_11111111 : QT 13 g13 [1, 1, 1, 1, 1, 1, 1, 1] := qT rfl
theorem q14_ : QS 14 g14 [] := qS rfl
theorem q14_0 : QR 14 g14 [0] 1 := qR rfl rfl rfl rfl
theorem q14_1 : QS 14 g14 [1] := qS rfl
theorem q14_10 : QR 14 g14 [0, 1] 5 := qR rfl rfl rfl rfl
theorem q14_11 : QS 14 g14 [1, 1] := qS rfl
theorem q14_110 : QS 14 g14 [0, 1, 1] := qS rfl
theorem q14_1100 : QR 14 g14 [0, 0, 1, 1] 2 := qR rfl rfl rfl rfl
theorem q14_1101 : QC 14 g14 [1, 0, 1, 1] 11 := qC rfl
theorem q14_11010 : QS 14 g14 [0, 1, 0, 1, 1] := qS rfl
theorem q14_110100 : QR 14 g14 [0, 0, 1, 0, 1, 1] 1 := qR rfl rfl rfl rfl
theorem q14_110101 : QT 14 g14 [1, 0, 1, 0, 1, 1] := qT rfl
theorem q14_11011 : QK 14 g14 [1, 1, 0, 1, 1] := qK rfl
theorem q14_111 : QS 14 g14 [1, 1, 1] := qS rfl
theorem q14_1110 : QS 14 g14 [0, 1, 1, 1] := qS rfl
theorem q14_11100 : QR 14 g14 [0, 0, 1, 1, 1] 1 := qR rfl rfl rfl rfl
theorem q14_11101 : QB 14 g14 [1, 0, 1, 1, 1] 0 := qB rfl
theorem q14_111010 : QL 14 g14 [0, 1, 0, 1, 1, 1] 5 := qL rfl rfl
theorem q14_1110100 : QS 14 g14 [0, 0, 1, 0, 1, 1, 1] := qS rfl
theorem q14_11101000 : QS 14 g14 [0, 0, 0, 1, 0, 1, 1, 1] := qS rfl
theorem q14_111010000 : QR 14 g14 [0, 0, 0, 0, 1, 0, 1, 1, 1] 4 := qR rfl rfl rfl rfl
theorem q14_111010001 : QC 14 g14 [1, 0, 0, 0, 1, 0, 1, 1, 1] 15 := qC rfl
theorem q14_1110100010 : QK 14 g14 [0, 1, 0, 0, 0, 1, 0, 1, 1, 1] := qK rfl
theorem q14_1110100011 : QX 14 g14 [1, 1, 0, 0, 0, 1, 0, 1, 1, 1] 0 := qX rfl
theorem q14_11101001 : QS 14 g14 [1, 0, 0, 1, 0, 1, 1, 1] := qS rfl
theorem q14_111010010 : QB 14 g14 [0, 1, 0, 0, 1, 0, 1, 1, 1] 1 := qB rfl
theorem q14_1110100100 : QS 14 g14 [0, 0, 1, 0, 0, 1, 0, 1, 1, 1] := qS rfl
theorem q14_11101001000 : QR 14 g14 [0, 0, 0, 1, 0, 0, 1, 0, 1, 1, 1] 7 := qR rfl rfl rfl rfl
theorem q14_11101001001 : QS 14 g14 [1, 0, 0, 1, 0, 0, 1, 0, 1, 1, 1] := qS rfl
theorem q14_111010010010 : QR 14 g14 [0, 1, 0, 0, 1, 0, 0, 1, 0, 1, 1, 1] 2 := qR rfl rfl rfl rfl
theorem q14_111010010011 : QC 14 g14 [1, 1, 0, 0, 1, 0, 0, 1, 0, 1, 1, 1] 25 := qC rfl
theorem q14_1110100100110 : QS 14 g14 [0, 1, 1, 0, 0, 1, 0, 0, 1, 0, 1, 1, 1] := qS rfl
theorem q14_11101001001100 : QR 14 g14 [0, 0, 1, 1, 0, 0, 1, 0, 0, 1, 0, 1, 1, 1] 1 := qR rfl rfl rfl rfl
theorem q14_11101001001101 : QT 14 g14 [1, 0, 1, 1, 0, 0, 1, 0, 0, 1, 0, 1, 1, 1] := qT rfl
theorem q14_1110100100111 : QK 14 g14 [1, 1, 1, 0, 0, 1, 0, 0, 1, 0, 1, 1, 1] := qK rfl
theorem q14_111010011 : QR 14 g14 [1, 1, 0, 0, 1, 0, 1, 1, 1] 3 := qR rfl rfl rfl rfl
theorem q14_1111 : QS 14 g14 [1, 1, 1, 1] := qS rfl
theorem q14_11110 : QR 14 g14 [0, 1, 1, 1, 1] 2 := qR rfl rfl rfl rfl
theorem q14_11111 : QT 14 g14 [1, 1, 1, 1, 1] := qT rfl
theorem q15_ : QS 15 g15 [] := qS rfl
theorem q15_0 : QR 15 g15 [0] 2 := qR rfl rfl rfl rfl
theorem q15_1 : QS 15 g15 [1] := qS rfl
theorem q15_10 : QR 15 g15 [0, 1] 3 := qR rfl rfl rfl rfl
theorem q15_11 : QS 15 g15 [1, 1] := qS rfl
theorem q15_110 : QR 15 g15 [0, 1, 1] 8 := qR rfl rfl rfl rfl
theorem q15_111 : QS 15 g15 [1, 1, 1] := qS rfl
theorem q15_1110 : QR 15 g15 [0, 1, 1, 1] 8 := qR rfl rfl rfl rfl
theorem q15_1111 : QS 15 g15 [1, 1, 1, 1] := qS rfl
theorem q15_11110 : QR 15 g15 [0, 1, 1, 1, 1] 6 := qR rfl rfl rfl rfl
theorem q15_11111 : QS 15 g15 [1, 1, 1, 1, 1] := qS rfl
theorem q15_111110 : QR 15 g15 [0, 1, 1, 1, 1, 1] 5 := qR rfl rfl rfl rfl
theorem q15_111111 : QS 15 g15 [1, 1, 1, 1, 1, 1] := qS rfl
theorem q15_1111110 : QR 15 g15 [0, 1, 1, 1, 1, 1, 1] 5 := qR rfl rfl rfl rfl
theorem q15_1111111 : QS 15 g15 [1, 1, 1, 1, 1, 1, 1] := qS rfl
theorem q15_11111110 : QR 15 g15 [0, 1, 1, 1, 1, 1, 1, 1] 3 := qR rfl rfl rfl rfl
theorem q15_11111111 : QS 15 g15 [1, 1, 1, 1, 1, 1, 1, 1] := qS rfl
theorem q15_111111110 : QS 15 g15 [0, 1, 1, 1, 1, 1, 1, 1, 1] := qS rfl
theorem q15_1111111100 : QR 15 g15 [0, 0, 1, 1, 1, 1, 1, 1, 1, 1] 1 := qR rfl rfl rfl rfl
theorem q15_1111111101 : QB 15 g15 [1, 0, 1, 1, 1, 1, 1, 1, 1, 1] 0 := qB rfl
theorem q15_11111111010 : QL 15 g15 [0, 1, 0, 1, 1, 1, 1, 1, 1, 1, 1] 9 := qL rfl rfl
theorem q15_111111110100 : QS 15 g15 [0, 0, 1, 0, 1, 1, 1, 1, 1, 1, 1, 1] := qS rfl
theorem q15_1111111101000 : QS 15 g15 [0, 0, 0, 1, 0, 1, 1, 1, 1, 1, 1, 1, 1] := qS rfl
theorem q15_11111111010000 : QR 15 g15 [0, 0, 0, 0, 1, 0, 1, 1, 1, 1, 1, 1, 1, 1] 5 := qR rfl rfl rfl rfl
theorem q15_11111111010001 : QC 15 g15 [1, 0, 0, 0, 1, 0, 1, 1, 1, 1, 1, 1, 1, 1] 40 := qC rfl
theorem q15_111111110100010 : QK 15 g15 [0, 1, 0, 0, 0, 1, 0, 1, 1, 1, 1, 1, 1, 1, 1] := qK rfl
theorem q15_111111110100011 : QX 15 g15 [1, 1, 0, 0, 0, 1, 0, 1, 1, 1, 1, 1, 1, 1, 1] 0 := qX rfl
theorem q15_1111111101001 : QS 15 g15 [1, 0, 0, 1, 0, 1, 1, 1, 1, 1, 1, 1, 1] := qS rfl
theorem q15_11111111010010 : QB 15 g15 [0, 1, 0, 0, 1, 0, 1, 1, 1, 1, 1, 1, 1, 1] 1 := qB rfl
theorem q15_111111110100100 : QS 15 g15 [0, 0, 1, 0, 0, 1, 0, 1, 1, 1, 1, 1, 1, 1, 1] := qS rfl
theorem q15_1111111101001000 : QR 15 g15 [0, 0, 0, 1, 0, 0, 1, 0, 1, 1, 1, 1, 1, 1, 1, 1] 7 := qR rfl rfl rfl rfl
theorem q15_1111111101001001 : QS 15 g15 [1, 0, 0, 1, 0, 0, 1, 0, 1, 1, 1, 1, 1, 1, 1, 1] := qS rfl
theorem q15_11111111010010010 : QR 15 g15 [0, 1, 0, 0, 1, 0, 0, 1, 0, 1, 1, 1, 1, 1, 1, 1, 1] 6 := qR rfl rfl rfl rfl
theorem q15_11111111010010011 : QS 15 g15 [1, 1, 0, 0, 1, 0, 0, 1, 0, 1, 1, 1, 1, 1, 1, 1, 1] := qS rfl
theorem q15_111111110100100110 : QR 15 g15 [0, 1, 1, 0, 0, 1, 0, 0, 1, 0, 1, 1, 1, 1, 1, 1, 1, 1] 5 := qR rfl rfl rfl rfl
theorem q15_111111110100100111 : QRP 15 g15 [1, 1, 1, 0, 0, 1, 0, 0, 1, 0, 1, 1, 1, 1, 1, 1, 1, 1] 7 [5] [] := qRP (n := 15) (g := g15) (p := [1, 1, 1, 0, 0, 1, 0, 0, 1, 0, 1, 1, 1, 1, 1, 1, 1, 1]) (m := 7) (id := 14) (fr := [5]) (ps := []) rfl rfl rfl rfl
theorem q15_11111111010011 : QR 15 g15 [1, 1, 0, 0, 1, 0, 1, 1, 1, 1, 1, 1, 1, 1] 3 := qR rfl rfl rfl rfl
theorem q15_111111111 : QS 15 g15 [1, 1, 1, 1, 1, 1, 1, 1, 1] := qS rfl
theorem q15_1111111110 : QR 15 g15 [0, 1, 1, 1, 1, 1, 1, 1, 1, 1] 2 := qR rfl rfl rfl rfl
theorem q15_1111111111 : QT 15 g15 [1, 1, 1, 1, 1, 1, 1, 1, 1, 1] := qT rfl
theorem q16_ : QS 16 g16 [] := qS rfl
theorem q16_0 : QR 16 g16 [0] 2 := qR rfl rfl rfl rfl
theorem q16_1 : QS 16 g16 [1] := qS rfl
theorem q16_10 : QR 16 g16 [0, 1] 1 := qR rfl rfl rfl rfl
theorem q16_11 : QS 16 g16 [1, 1] := qS rfl
theorem q16_110 : QR 16 g16 [0, 1, 1] 5 := qR rfl rfl rfl rfl
theorem q16_111 : QS 16 g16 [1, 1, 1] := qS rfl
theorem q16_1110 : QR 16 g16 [0, 1, 1, 1] 5 := qR rfl rfl rfl rfl
theorem q16_1111 : QS 16 g16 [1, 1, 1, 1] := qS rfl
theorem q16_11110 : QR 16 g16 [0, 1, 1, 1, 1] 4 := qR rfl rfl rfl rfl
theorem q16_11111 : QS 16 g16 [1, 1, 1, 1, 1] := qS rfl
theorem q16_111110 : QR 16 g16 [0, 1, 1, 1, 1, 1] 4 := qR rfl rfl rfl rfl
theorem q16_111111 : QS 16 g16 [1, 1, 1, 1, 1, 1] := qS rfl
theorem q16_1111110 : QR 16 g16 [0, 1, 1, 1, 1, 1, 1] 4 := qR rfl rfl rfl rfl
theorem q16_1111111 : QS 16 g16 [1, 1, 1, 1, 1, 1, 1] := qS rfl
theorem q16_11111110 : QR 16 g16 [0, 1, 1, 1, 1, 1, 1, 1] 2 := qR rfl rfl rfl rfl
theorem q16_11111111 : QT 16 g16 [1, 1, 1, 1, 1, 1, 1, 1] := qT rfl
theorem q17_ : QS 17 g17 [] := qS rfl
theorem q17_0 : QR 17 g17 [0] 1 := qR rfl rfl rfl rfl
theorem q17_1 : QS 17 g17 [1] := qS rfl
theorem q17_10 : QR 17 g17 [0, 1] 4 := qR rfl rfl rfl rfl
theorem q17_11 : QS 17 g17 [1, 1] := qS rfl
theorem q17_110 : QS 17 g17 [0, 1, 1] := qS rfl
theorem q17_1100 : QR 17 g17 [0, 0, 1, 1] 1 := qR rfl rfl rfl rfl
theorem q17_1101 : QB 17 g17 [1, 0, 1, 1] 0 := qB rfl
theorem q17_11010 : QL 17 g17 [0, 1, 0, 1, 1] 3 := qL rfl rfl
theorem q17_110100 : QS 17 g17 [0, 0, 1, 0, 1, 1] := qS rfl
theorem q17_1101000 : QS 17 g17 [0, 0, 0, 1, 0, 1, 1] := qS rfl
theorem q17_11010000 : QR 17 g17 [0, 0, 0, 0, 1, 0, 1, 1] 4 := qR rfl rfl rfl rfl
theorem q17_11010001 : QC 17 g17 [1, 0, 0, 0, 1, 0, 1, 1] 11 := qC rfl
theorem q17_110100010 : QK 17 g17 [0, 1, 0, 0, 0, 1, 0, 1, 1] := qK rfl
theorem q17_110100011 : QX 17 g17 [1, 1, 0, 0, 0, 1, 0, 1, 1] 0 := qX rfl
theorem q17_1101001 : QS 17 g17 [1, 0, 0, 1, 0, 1, 1] := qS rfl
theorem q17_11010010 : QB 17 g17 [0, 1, 0, 0, 1, 0, 1, 1] 1 := qB rfl
theorem q17_110100100 : QR 17 g17 [0, 0, 1, 0, 0, 1, 0, 1, 1] 8 := qR rfl rfl rfl rfl
theorem q17_11010011 : QR 17 g17 [1, 1, 0, 0, 1, 0, 1, 1] 3 := qR rfl rfl rfl rfl
theorem q17_111 : QS 17 g17 [1, 1, 1] := qS rfl
theorem q17_1110 : QR 17 g17 [0, 1, 1, 1] 2 := qR rfl rfl rfl rfl
theorem q17_1111 : QT 17 g17 [1, 1, 1, 1] := qT rfl
theorem q18_ : QS 18 g18 [] := qS rfl
theorem q18_0 : QR 18 g18 [0] 2 := qR rfl rfl rfl rfl
theorem q18_1 : QS 18 g18 [1] := qS rfl
theorem q18_10 : QR 18 g18 [0, 1] 1 := qR rfl rfl rfl rfl
theorem q18_11 : QS 18 g18 [1, 1] := qS rfl
theorem q18_110 : QR 18 g18 [0, 1, 1] 5 := qR rfl rfl rfl rfl
theorem q18_111 : QS 18 g18 [1, 1, 1] := qS rfl
theorem q18_1110 : QR 18 g18 [0, 1, 1, 1] 5 := qR rfl rfl rfl rfl
theorem q18_1111 : QS 18 g18 [1, 1, 1, 1] := qS rfl
theorem q18_11110 : QR 18 g18 [0, 1, 1, 1, 1] 4 := qR rfl rfl rfl rfl
theorem q18_11111 : QS 18 g18 [1, 1, 1, 1, 1] := qS rfl
theorem q18_111110 : QR 18 g18 [0, 1, 1, 1, 1, 1] 2 := qR rfl rfl rfl rfl
theorem q18_111111 : QT 18 g18 [1, 1, 1, 1, 1, 1] := qT rfl
theorem q19_ : QS 19 g19 [] := qS rfl
theorem q19_0 : QR 19 g19 [0] 1 := qR rfl rfl rfl rfl
theorem q19_1 : QS 19 g19 [1] := qS rfl
theorem q19_10 : QR 19 g19 [0, 1] 4 := qR rfl rfl rfl rfl
theorem q19_11 : QS 19 g19 [1, 1] := qS rfl
theorem q19_110 : QS 19 g19 [0, 1, 1] := qS rfl
theorem q19_1100 : QRP 19 g19 [0, 0, 1, 1] 1 [] [.nest 3 0] := qRP (n := 19) (g := g19) (p := [0, 0, 1, 1]) (m := 1) (id := 2) (fr := []) (ps := [.nest 3 0]) rfl rfl rfl rfl
theorem q19_1101 : QB 19 g19 [1, 0, 1, 1] 0 := qB rfl
theorem q19_11010 : QL 19 g19 [0, 1, 0, 1, 1] 3 := qL rfl rfl
theorem q19_110100 : QS 19 g19 [0, 0, 1, 0, 1, 1] := qS rfl
theorem q19_1101000 : QS 19 g19 [0, 0, 0, 1, 0, 1, 1] := qS rfl
theorem q19_11010000 : QR 19 g19 [0, 0, 0, 0, 1, 0, 1, 1] 4 := qR rfl rfl rfl rfl
theorem q19_11010001 : QC 19 g19 [1, 0, 0, 0, 1, 0, 1, 1] 11 := qC rfl
theorem q19_110100010 : QK 19 g19 [0, 1, 0, 0, 0, 1, 0, 1, 1] := qK rfl
theorem q19_110100011 : QX 19 g19 [1, 1, 0, 0, 0, 1, 0, 1, 1] 0 := qX rfl
theorem q19_1101001 : QS 19 g19 [1, 0, 0, 1, 0, 1, 1] := qS rfl
theorem q19_11010010 : QB 19 g19 [0, 1, 0, 0, 1, 0, 1, 1] 1 := qB rfl
theorem q19_110100100 : QR 19 g19 [0, 0, 1, 0, 0, 1, 0, 1, 1] 9 := qR rfl rfl rfl rfl
theorem q19_11010011 : QR 19 g19 [1, 1, 0, 0, 1, 0, 1, 1] 3 := qR rfl rfl rfl rfl
theorem q19_111 : QS 19 g19 [1, 1, 1] := qS rfl
theorem q19_1110 : QR 19 g19 [0, 1, 1, 1] 2 := qR rfl rfl rfl rfl
theorem q19_1111 : QT 19 g19 [1, 1, 1, 1] := qT rfl
theorem q20_ : QS 20 g20 [] := qS rfl
theorem q20_0 : QR 20 g20 [0] 2 := qR rfl rfl rfl rfl
theorem q20_1 : QS 20 g20 [1] := qS rfl
theorem q20_10 : QR 20 g20 [0, 1] 3 := qR rfl rfl rfl rfl
theorem q20_11 : QS 20 g20 [1, 1] := qS rfl
theorem q20_110 : QD 20 g20 [0, 1, 1] 20 := qD rfl rfl rfl rfl
theorem q20_111 : QS 20 g20 [1, 1, 1] := qS rfl
theorem q20_1110 : QR 20 g20 [0, 1, 1, 1] 2 := qR rfl rfl rfl rfl
theorem q20_1111 : QS 20 g20 [1, 1, 1, 1] := qS rfl
theorem q20_11110 : QS 20 g20 [0, 1, 1, 1, 1] := qS rfl
theorem q20_111100 : QR 20 g20 [0, 0, 1, 1, 1, 1] 4 := qR rfl rfl rfl rfl
theorem q20_111101 : QB 20 g20 [1, 0, 1, 1, 1, 1] 0 := qB rfl
theorem q20_1111010 : QL 20 g20 [0, 1, 0, 1, 1, 1, 1] 5 := qL rfl rfl
theorem q20_11110100 : QS 20 g20 [0, 0, 1, 0, 1, 1, 1, 1] := qS rfl
theorem q20_111101000 : QR 20 g20 [0, 0, 0, 1, 0, 1, 1, 1, 1] 1 := qR rfl rfl rfl rfl
theorem q20_111101001 : QS 20 g20 [1, 0, 0, 1, 0, 1, 1, 1, 1] := qS rfl
theorem q20_1111010010 : QC 20 g20 [0, 1, 0, 0, 1, 0, 1, 1, 1, 1] 28 := qC rfl
theorem q20_11110100100 : QK 20 g20 [0, 0, 1, 0, 0, 1, 0, 1, 1, 1, 1] := qK rfl
theorem q20_11110100101 : QX 20 g20 [1, 0, 1, 0, 0, 1, 0, 1, 1, 1, 1] 0 := qX rfl
theorem q20_1111010011 : QS 20 g20 [1, 1, 0, 0, 1, 0, 1, 1, 1, 1] := qS rfl
theorem q20_11110100110 : QB 20 g20 [0, 1, 1, 0, 0, 1, 0, 1, 1, 1, 1] 1 := qB rfl
theorem q20_111101001100 : QS 20 g20 [0, 0, 1, 1, 0, 0, 1, 0, 1, 1, 1, 1] := qS rfl
theorem q20_1111010011000 : QRP 20 g20 [0, 0, 0, 1, 1, 0, 0, 1, 0, 1, 1, 1, 1] 4 [] [.up 25 0 27 0, .up 25 0 27 4, .up 25 0 27 5] := qRP (n := 20) (g := g20) (p := [0, 0, 0, 1, 1, 0, 0, 1, 0, 1, 1, 1, 1]) (m := 4) (id := 6) (fr := []) (ps := [.up 25 0 27 0, .up 25 0 27 4, .up 25 0 27 5]) rfl rfl rfl rfl
theorem q20_1111010011001 : QS 20 g20 [1, 0, 0, 1, 1, 0, 0, 1, 0, 1, 1, 1, 1] := qS rfl
theorem q20_11110100110010 : QD 20 g20 [0, 1, 0, 0, 1, 1, 0, 0, 1, 0, 1, 1, 1, 1] 10 := qD rfl rfl rfl rfl
theorem q20_11110100110011 : QR 20 g20 [1, 1, 0, 0, 1, 1, 0, 0, 1, 0, 1, 1, 1, 1] 7 := qR rfl rfl rfl rfl
theorem q20_11110100111 : QRP 20 g20 [1, 1, 1, 0, 0, 1, 0, 1, 1, 1, 1] 2 [] [.down 25 0 27 0, .down 25 0 27 4, .down 25 0 27 5] := qRP (n := 20) (g := g20) (p := [1, 1, 1, 0, 0, 1, 0, 1, 1, 1, 1]) (m := 2) (id := 9) (fr := []) (ps := [.down 25 0 27 0, .down 25 0 27 4, .down 25 0 27 5]) rfl rfl rfl rfl
theorem q20_11111 : QS 20 g20 [1, 1, 1, 1, 1] := qS rfl
theorem q20_111110 : QR 20 g20 [0, 1, 1, 1, 1, 1] 2 := qR rfl rfl rfl rfl
theorem q20_111111 : QT 20 g20 [1, 1, 1, 1, 1, 1] := qT rfl
theorem q21_ : QS 21 g21 [] := qS rfl
theorem q21_0 : QR 21 g21 [0] 3 := qR rfl rfl rfl rfl
theorem q21_1 : QS 21 g21 [1] := qS rfl
theorem q21_10 : QS 21 g21 [0, 1] := qS rfl
theorem q21_100 : QR 21 g21 [0, 0, 1] 6 := qR rfl rfl rfl rfl
theorem q21_101 : QC 21 g21 [1, 0, 1] 10 := qC rfl
theorem q21_1010 : QS 21 g21 [0, 1, 0, 1] := qS rfl
theorem q21_10100 : QR 21 g21 [0, 0, 1, 0, 1] 1 := qR rfl rfl rfl rfl
theorem q21_10101 : QT 21 g21 [1, 0, 1, 0, 1] := qT rfl
theorem q21_1011 : QK 21 g21 [1, 1, 0, 1] := qK rfl
theorem q21_11 : QS 21 g21 [1, 1] := qS rfl
theorem q21_110 : QS 21 g21 [0, 1, 1] := qS rfl
theorem q21_1100 : QR 21 g21 [0, 0, 1, 1] 6 := qR rfl rfl rfl rfl
theorem q21_1101 : QC 21 g21 [1, 0, 1, 1] 16 := qC rfl
theorem q21_11010 : QS 21 g21 [0, 1, 0, 1, 1] := qS rfl
theorem q21_110100 : QR 21 g21 [0, 0, 1, 0, 1, 1] 1 := qR rfl rfl rfl rfl
theorem q21_110101 : QT 21 g21 [1, 0, 1, 0, 1, 1] := qT rfl
theorem q21_11011 : QK 21 g21 [1, 1, 0, 1, 1] := qK rfl
theorem q21_111 : QS 21 g21 [1, 1, 1] := qS rfl
theorem q21_1110 : QS 21 g21 [0, 1, 1, 1] := qS rfl
theorem q21_11100 : QR 21 g21 [0, 0, 1, 1, 1] 5 := qR rfl rfl rfl rfl
theorem q21_11101 : QC 21 g21 [1, 0, 1, 1, 1] 21 := qC rfl
theorem q21_111010 : QS 21 g21 [0, 1, 0, 1, 1, 1] := qS rfl
theorem q21_1110100 : QR 21 g21 [0, 0, 1, 0, 1, 1, 1] 1 := qR rfl rfl rfl rfl
theorem q21_1110101 : QT 21 g21 [1, 0, 1, 0, 1, 1, 1] := qT rfl
theorem q21_111011 : QK 21 g21 [1, 1, 0, 1, 1, 1] := qK rfl
theorem q21_1111 : QS 21 g21 [1, 1, 1, 1] := qS rfl
theorem q21_11110 : QS 21 g21 [0, 1, 1, 1, 1] := qS rfl
theorem q21_111100 : QR 21 g21 [0, 0, 1, 1, 1, 1] 5 := qR rfl rfl rfl rfl
theorem q21_111101 : QC 21 g21 [1, 0, 1, 1, 1, 1] 26 := qC rfl
theorem q21_1111010 : QS 21 g21 [0, 1, 0, 1, 1, 1, 1] := qS rfl
theorem q21_11110100 : QR 21 g21 [0, 0, 1, 0, 1, 1, 1, 1] 1 := qR rfl rfl rfl rfl
theorem q21_11110101 : QT 21 g21 [1, 0, 1, 0, 1, 1, 1, 1] := qT rfl
theorem q21_1111011 : QK 21 g21 [1, 1, 0, 1, 1, 1, 1] := qK rfl
theorem q21_11111 : QS 21 g21 [1, 1, 1, 1, 1] := qS rfl
theorem q21_111110 : QS 21 g21 [0, 1, 1, 1, 1, 1] := qS rfl
theorem q21_1111100 : QR 21 g21 [0, 0, 1, 1, 1, 1, 1] 5 := qR rfl rfl rfl rfl
theorem q21_1111101 : QC 21 g21 [1, 0, 1, 1, 1, 1, 1] 31 := qC rfl
theorem q21_11111010 : QS 21 g21 [0, 1, 0, 1, 1, 1, 1, 1] := qS rfl
theorem q21_111110100 : QR 21 g21 [0, 0, 1, 0, 1, 1, 1, 1, 1] 1 := qR rfl rfl rfl rfl
theorem q21_111110101 : QT 21 g21 [1, 0, 1, 0, 1, 1, 1, 1, 1] := qT rfl
theorem q21_11111011 : QK 21 g21 [1, 1, 0, 1, 1, 1, 1, 1] := qK rfl
theorem q21_111111 : QS 21 g21 [1, 1, 1, 1, 1, 1] := qS rfl
theorem q21_1111110 : QR 21 g21 [0, 1, 1, 1, 1, 1, 1] 1 := qR rfl rfl rfl rfl
theorem q21_1111111 : QT 21 g21 [1, 1, 1, 1, 1, 1, 1] := qT rfl
theorem q22_ : QS 22 g22 [] := qS rfl
theorem q22_0 : QR 22 g22 [0] 1 := qR rfl rfl rfl rfl
theorem q22_1 : QS 22 g22 [1] := qS rfl
theorem q22_10 : QS 22 g22 [0, 1] := qS rfl
theorem q22_100 : QR 22 g22 [0, 0, 1] 5 := qR rfl rfl rfl rfl
theorem q22_101 : QC 22 g22 [1, 0, 1] 10 := qC rfl
theorem q22_1010 : QS 22 g22 [0, 1, 0, 1] := qS rfl
theorem q22_10100 : QR 22 g22 [0, 0, 1, 0, 1] 1 := qR rfl rfl rfl rfl
theorem q22_10101 : QT 22 g22 [1, 0, 1, 0, 1] := qT rfl
theorem q22_1011 : QK 22 g22 [1, 1, 0, 1] := qK rfl
theorem q22_11 : QS 22 g22 [1, 1] := qS rfl
theorem q22_110 : QS 22 g22 [0, 1, 1] := qS rfl
theorem q22_1100 : QR 22 g22 [0, 0, 1, 1] 1 := qR rfl rfl rfl rfl
theorem q22_1101 : QB 22 g22 [1, 0, 1, 1] 0 := qB rfl
theorem q22_11010 : QL 22 g22 [0, 1, 0, 1, 1] 4 := qL rfl rfl
theorem q22_110100 : QS 22 g22 [0, 0, 1, 0, 1, 1] := qS rfl
theorem q22_1101000 : QS 22 g22 [0, 0, 0, 1, 0, 1, 1] := qS rfl
theorem q22_11010000 : QR 22 g22 [0, 0, 0, 0, 1, 0, 1, 1] 4 := qR rfl rfl rfl rfl
theorem q22_11010001 : QC 22 g22 [1, 0, 0, 0, 1, 0, 1, 1] 14 := qC rfl
theorem q22_110100010 : QK 22 g22 [0, 1, 0, 0, 0, 1, 0, 1, 1] := qK rfl
theorem q22_110100011 : QX 22 g22 [1, 1, 0, 0, 0, 1, 0, 1, 1] 0 := qX rfl
theorem q22_1101001 : QS 22 g22 [1, 0, 0, 1, 0, 1, 1] := qS rfl
theorem q22_11010010 : QB 22 g22 [0, 1, 0, 0, 1, 0, 1, 1] 1 := qB rfl
theorem q22_110100100 : QS 22 g22 [0, 0, 1, 0, 0, 1, 0, 1, 1] := qS rfl
theorem q22_1101001000 : QD 22 g22 [0, 0, 0, 1, 0, 0, 1, 0, 1, 1] 9 := qD rfl rfl rfl rfl
theorem q22_1101001001 : QC 22 g22 [1, 0, 0, 1, 0, 0, 1, 0, 1, 1] 25 := qC rfl
theorem q22_11010010010 : QS 22 g22 [0, 1, 0, 0, 1, 0, 0, 1, 0, 1, 1] := qS rfl
theorem q22_110100100100 : QR 22 g22 [0, 0, 1, 0, 0, 1, 0, 0, 1, 0, 1, 1] 1 := qR rfl rfl rfl rfl
theorem q22_110100100101 : QT 22 g22 [1, 0, 1, 0, 0, 1, 0, 0, 1, 0, 1, 1] := qT rfl
theorem q22_11010010011 : QK 22 g22 [1, 1, 0, 0, 1, 0, 0, 1, 0, 1, 1] := qK rfl
theorem q22_11010011 : QR 22 g22 [1, 1, 0, 0, 1, 0, 1, 1] 3 := qR rfl rfl rfl rfl
theorem q22_111 : QS 22 g22 [1, 1, 1] := qS rfl
theorem q22_1110 : QR 22 g22 [0, 1, 1, 1] 1 := qR rfl rfl rfl rfl
theorem q22_1111 : QT 22 g22 [1, 1, 1, 1] := qT rfl
theorem q23_ : QS 23 g23 [] := qS rfl
theorem q23_0 : QR 23 g23 [0] 3 := qR rfl rfl rfl rfl
theorem q23_1 : QS 23 g23 [1] := qS rfl
theorem q23_10 : QS 23 g23 [0, 1] := qS rfl
theorem q23_100 : QR 23 g23 [0, 0, 1] 6 := qR rfl rfl rfl rfl
theorem q23_101 : QC 23 g23 [1, 0, 1] 10 := qC rfl
theorem q23_1010 : QS 23 g23 [0, 1, 0, 1] := qS rfl
theorem q23_10100 : QR 23 g23 [0, 0, 1, 0, 1] 1 := qR rfl rfl rfl rfl
theorem q23_10101 : QT 23 g23 [1, 0, 1, 0, 1] := qT rfl
theorem q23_1011 : QK 23 g23 [1, 1, 0, 1] := qK rfl
theorem q23_11 : QS 23 g23 [1, 1] := qS rfl
theorem q23_110 : QS 23 g23 [0, 1, 1] := qS rfl
theorem q23_1100 : QR 23 g23 [0, 0, 1, 1] 6 := qR rfl rfl rfl rfl
theorem q23_1101 : QC 23 g23 [1, 0, 1, 1] 16 := qC rfl
theorem q23_11010 : QS 23 g23 [0, 1, 0, 1, 1] := qS rfl
theorem q23_110100 : QR 23 g23 [0, 0, 1, 0, 1, 1] 1 := qR rfl rfl rfl rfl
theorem q23_110101 : QT 23 g23 [1, 0, 1, 0, 1, 1] := qT rfl
theorem q23_11011 : QK 23 g23 [1, 1, 0, 1, 1] := qK rfl
theorem q23_111 : QS 23 g23 [1, 1, 1] := qS rfl
theorem q23_1110 : QS 23 g23 [0, 1, 1, 1] := qS rfl
theorem q23_11100 : QR 23 g23 [0, 0, 1, 1, 1] 5 := qR rfl rfl rfl rfl
theorem q23_11101 : QC 23 g23 [1, 0, 1, 1, 1] 21 := qC rfl
theorem q23_111010 : QS 23 g23 [0, 1, 0, 1, 1, 1] := qS rfl
theorem q23_1110100 : QR 23 g23 [0, 0, 1, 0, 1, 1, 1] 1 := qR rfl rfl rfl rfl
theorem q23_1110101 : QT 23 g23 [1, 0, 1, 0, 1, 1, 1] := qT rfl
theorem q23_111011 : QK 23 g23 [1, 1, 0, 1, 1, 1] := qK rfl
theorem q23_1111 : QS 23 g23 [1, 1, 1, 1] := qS rfl
theorem q23_11110 : QR 23 g23 [0, 1, 1, 1, 1] 1 := qR rfl rfl rfl rfl
theorem q23_11111 : QT 23 g23 [1, 1, 1, 1, 1] := qT rfl
theorem q24_ : QS 24 g24 [] := qS rfl
theorem q24_0 : QR 24 g24 [0] 1 := qR rfl rfl rfl rfl
theorem q24_1 : QS 24 g24 [1] := qS rfl
theorem q24_10 : QS 24 g24 [0, 1] := qS rfl
theorem q24_100 : QR 24 g24 [0, 0, 1] 5 := qR rfl rfl rfl rfl
theorem q24_101 : QC 24 g24 [1, 0, 1] 10 := qC rfl
theorem q24_1010 : QS 24 g24 [0, 1, 0, 1] := qS rfl
theorem q24_10100 : QR 24 g24 [0, 0, 1, 0, 1] 1 := qR rfl rfl rfl rfl
theorem q24_10101 : QT 24 g24 [1, 0, 1, 0, 1] := qT rfl
theorem q24_1011 : QK 24 g24 [1, 1, 0, 1] := qK rfl
theorem q24_11 : QS 24 g24 [1, 1] := qS rfl
theorem q24_110 : QS 24 g24 [0, 1, 1] := qS rfl
theorem q24_1100 : QR 24 g24 [0, 0, 1, 1] 1 := qR rfl rfl rfl rfl
theorem q24_1101 : QB 24 g24 [1, 0, 1, 1] 0 := qB rfl
theorem q24_11010 : QL 24 g24 [0, 1, 0, 1, 1] 4 := qL rfl rfl
theorem q24_110100 : QS 24 g24 [0, 0, 1, 0, 1, 1] := qS rfl
theorem q24_1101000 : QS 24 g24 [0, 0, 0, 1, 0, 1, 1] := qS rfl
theorem q24_11010000 : QR 24 g24 [0, 0, 0, 0, 1, 0, 1, 1] 4 := qR rfl rfl rfl rfl
theorem q24_11010001 : QC 24 g24 [1, 0, 0, 0, 1, 0, 1, 1] 14 := qC rfl
theorem q24_110100010 : QK 24 g24 [0, 1, 0, 0, 0, 1, 0, 1, 1] := qK rfl
theorem q24_110100011 : QX 24 g24 [1, 1, 0, 0, 0, 1, 0, 1, 1] 0 := qX rfl
theorem q24_1101001 : QS 24 g24 [1, 0, 0, 1, 0, 1, 1] := qS rfl
theorem q24_11010010 : QB 24 g24 [0, 1, 0, 0, 1, 0, 1, 1] 1 := qB rfl
theorem q24_110100100 : QS 24 g24 [0, 0, 1, 0, 0, 1, 0, 1, 1] := qS rfl
theorem q24_1101001000 : QD 24 g24 [0, 0, 0, 1, 0, 0, 1, 0, 1, 1] 10 := qD rfl rfl rfl rfl
theorem q24_1101001001 : QC 24 g24 [1, 0, 0, 1, 0, 0, 1, 0, 1, 1] 26 := qC rfl
theorem q24_11010010010 : QS 24 g24 [0, 1, 0, 0, 1, 0, 0, 1, 0, 1, 1] := qS rfl
theorem q24_110100100100 : QR 24 g24 [0, 0, 1, 0, 0, 1, 0, 0, 1, 0, 1, 1] 1 := qR rfl rfl rfl rfl
theorem q24_110100100101 : QT 24 g24 [1, 0, 1, 0, 0, 1, 0, 0, 1, 0, 1, 1] := qT rfl
theorem q24_11010010011 : QK 24 g24 [1, 1, 0, 0, 1, 0, 0, 1, 0, 1, 1] := qK rfl
theorem q24_11010011 : QR 24 g24 [1, 1, 0, 0, 1, 0, 1, 1] 3 := qR rfl rfl rfl rfl
theorem q24_111 : QS 24 g24 [1, 1, 1] := qS rfl
theorem q24_1110 : QR 24 g24 [0, 1, 1, 1] 1 := qR rfl rfl rfl rfl
theorem q24_1111 : QT 24 g24 [1, 1, 1, 1] := qT rfl
theorem q25_ : QS 25 g25 [] := qS rfl
theorem q25_0 : QR 25 g25 [0] 2 := qR rfl rfl rfl rfl
theorem q25_1 : QS 25 g25 [1] := qS rfl
theorem q25_10 : QR 25 g25 [0, 1] 5 := qR rfl rfl rfl rfl
theorem q25_11 : QS 25 g25 [1, 1] := qS rfl
theorem q25_110 : QR 25 g25 [0, 1, 1] 5 := qR rfl rfl rfl rfl
theorem q25_111 : QS 25 g25 [1, 1, 1] := qS rfl
theorem q25_1110 : QR 25 g25 [0, 1, 1, 1] 2 := qR rfl rfl rfl rfl
theorem q25_1111 : QT 25 g25 [1, 1, 1, 1] := qT rfl
theorem q26_ : QS 26 g26 [] := qS rfl
theorem q26_0 : QR 26 g26 [0] 1 := qR rfl rfl rfl rfl
theorem q26_1 : QS 26 g26 [1] := qS rfl
theorem q26_10 : QS 26 g26 [0, 1] := qS rfl
theorem q26_100 : QR 26 g26 [0, 0, 1] 1 := qR rfl rfl rfl rfl
theorem q26_101 : QB 26 g26 [1, 0, 1] 0 := qB rfl
theorem q26_1010 : QL 26 g26 [0, 1, 0, 1] 2 := qL rfl rfl
theorem q26_10100 : QS 26 g26 [0, 0, 1, 0, 1] := qS rfl
theorem q26_101000 : QS 26 g26 [0, 0, 0, 1, 0, 1] := qS rfl
theorem q26_1010000 : QR 26 g26 [0, 0, 0, 0, 1, 0, 1] 4 := qR rfl rfl rfl rfl
theorem q26_1010001 : QC 26 g26 [1, 0, 0, 0, 1, 0, 1] 9 := qC rfl
theorem q26_10100010 : QK 26 g26 [0, 1, 0, 0, 0, 1, 0, 1] := qK rfl
theorem q26_10100011 : QX 26 g26 [1, 1, 0, 0, 0, 1, 0, 1] 0 := qX rfl
theorem q26_101001 : QS 26 g26 [1, 0, 0, 1, 0, 1] := qS rfl
theorem q26_1010010 : QB 26 g26 [0, 1, 0, 0, 1, 0, 1] 1 := qB rfl
theorem q26_10100100 : QS 26 g26 [0, 0, 1, 0, 0, 1, 0, 1] := qS rfl
theorem q26_101001000 : QR 26 g26 [0, 0, 0, 1, 0, 0, 1, 0, 1] 6 := qR rfl rfl rfl rfl
theorem q26_101001001 : QR 26 g26 [1, 0, 0, 1, 0, 0, 1, 0, 1] 3 := qR rfl rfl rfl rfl
theorem q26_1010011 : QR 26 g26 [1, 1, 0, 0, 1, 0, 1] 3 := qR rfl rfl rfl rfl
theorem q26_11 : QS 26 g26 [1, 1] := qS rfl
theorem q26_110 : QR 26 g26 [0, 1, 1] 2 := qR rfl rfl rfl rfl
theorem q26_111 : QT 26 g26 [1, 1, 1] := qT rfl
theorem q27_ : QS 27 g27 [] := qS rfl
theorem q27_0 : QR 27 g27 [0] 2 := qR rfl rfl rfl rfl
theorem q27_1 : QS 27 g27 [1] := qS rfl
theorem q27_10 : QR 27 g27 [0, 1] 5 := qR rfl rfl rfl rfl
theorem q27_11 : QS 27 g27 [1, 1] := qS rfl
theorem q27_110 : QR 27 g27 [0, 1, 1] 5 := qR rfl rfl rfl rfl
theorem q27_111 : QS 27 g27 [1, 1, 1] := qS rfl
theorem q27_1110 : QR 27 g27 [0, 1, 1, 1] 2 := qR rfl rfl rfl rfl
theorem q27_1111 : QT 27 g27 [1, 1, 1, 1] := qT rfl
theorem q28_ : QS 28 g28 [] := qS rfl
theorem q28_0 : QR 28 g28 [0] 1 := qR rfl rfl rfl rfl
theorem q28_1 : QS 28 g28 [1] := qS rfl
theorem q28_10 : QS 28 g28 [0, 1] := qS rfl
theorem q28_100 : QR 28 g28 [0, 0, 1] 1 := qR rfl rfl rfl rfl
theorem q28_101 : QB 28 g28 [1, 0, 1] 0 := qB rfl
theorem q28_1010 : QL 28 g28 [0, 1, 0, 1] 2 := qL rfl rfl
theorem q28_10100 : QS 28 g28 [0, 0, 1, 0, 1] := qS rfl
theorem q28_101000 : QS 28 g28 [0, 0, 0, 1, 0, 1] := qS rfl
theorem q28_1010000 : QR 28 g28 [0, 0, 0, 0, 1, 0, 1] 4 := qR rfl rfl rfl rfl
theorem q28_1010001 : QC 28 g28 [1, 0, 0, 0, 1, 0, 1] 9 := qC rfl
theorem q28_10100010 : QK 28 g28 [0, 1, 0, 0, 0, 1, 0, 1] := qK rfl
theorem q28_10100011 : QX 28 g28 [1, 1, 0, 0, 0, 1, 0, 1] 0 := qX rfl
theorem q28_101001 : QS 28 g28 [1, 0, 0, 1, 0, 1] := qS rfl
theorem q28_1010010 : QB 28 g28 [0, 1, 0, 0, 1, 0, 1] 1 := qB rfl
theorem q28_10100100 : QS 28 g28 [0, 0, 1, 0, 0, 1, 0, 1] := qS rfl
theorem q28_101001000 : QRP 28 g28 [0, 0, 0, 1, 0, 0, 1, 0, 1] 8 [] [.up 0 0 5 0] := qRP (n := 28) (g := g28) (p := [0, 0, 0, 1, 0, 0, 1, 0, 1]) (m := 8) (id := 4) (fr := []) (ps := [.up 0 0 5 0]) rfl rfl rfl rfl
theorem q28_101001001 : QS 28 g28 [1, 0, 0, 1, 0, 0, 1, 0, 1] := qS rfl
theorem q28_1010010010 : QRP 28 g28 [0, 1, 0, 0, 1, 0, 0, 1, 0, 1] 6 [] [.down 0 0 5 0] := qRP (n := 28) (g := g28) (p := [0, 1, 0, 0, 1, 0, 0, 1, 0, 1]) (m := 6) (id := 5) (fr := []) (ps := [.down 0 0 5 0]) rfl rfl rfl rfl
theorem q28_1010010011 : QS 28 g28 [1, 1, 0, 0, 1, 0, 0, 1, 0, 1] := qS rfl
theorem q28_10100100110 : QR 28 g28 [0, 1, 1, 0, 0, 1, 0, 0, 1, 0, 1] 3 := qR rfl rfl rfl rfl
theorem q28_10100100111 : QS 28 g28 [1, 1, 1, 0, 0, 1, 0, 0, 1, 0, 1] := qS rfl
theorem q28_101001001110 : QR 28 g28 [0, 1, 1, 1, 0, 0, 1, 0, 0, 1, 0, 1] 6 := qR rfl rfl rfl rfl
theorem q28_101001001111 : QS 28 g28 [1, 1, 1, 1, 0, 0, 1, 0, 0, 1, 0, 1] := qS rfl
theorem q28_1010010011110 : QR 28 g28 [0, 1, 1, 1, 1, 0, 0, 1, 0, 0, 1, 0, 1] 3 := qR rfl rfl rfl rfl
theorem q28_1010010011111 : QS 28 g28 [1, 1, 1, 1, 1, 0, 0, 1, 0, 0, 1, 0, 1] := qS rfl
theorem q28_10100100111110 : QR 28 g28 [0, 1, 1, 1, 1, 1, 0, 0, 1, 0, 0, 1, 0, 1] 8 := qR rfl rfl rfl rfl
theorem q28_10100100111111 : QS 28 g28 [1, 1, 1, 1, 1, 1, 0, 0, 1, 0, 0, 1, 0, 1] := qS rfl
theorem q28_101001001111110 : QR 28 g28 [0, 1, 1, 1, 1, 1, 1, 0, 0, 1, 0, 0, 1, 0, 1] 3 := qR rfl rfl rfl rfl
theorem q28_101001001111111 : QS 28 g28 [1, 1, 1, 1, 1, 1, 1, 0, 0, 1, 0, 0, 1, 0, 1] := qS rfl
theorem q28_1010010011111110 : QRP 28 g28 [0, 1, 1, 1, 1, 1, 1, 1, 0, 0, 1, 0, 0, 1, 0, 1] 9 [] [.up 0 0 5 4] := qRP (n := 28) (g := g28) (p := [0, 1, 1, 1, 1, 1, 1, 1, 0, 0, 1, 0, 0, 1, 0, 1]) (m := 9) (id := 11) (fr := []) (ps := [.up 0 0 5 4]) rfl rfl rfl rfl
theorem q28_1010010011111111 : QS 28 g28 [1, 1, 1, 1, 1, 1, 1, 1, 0, 0, 1, 0, 0, 1, 0, 1] := qS rfl
theorem q28_10100100111111110 : QRP 28 g28 [0, 1, 1, 1, 1, 1, 1, 1, 1, 0, 0, 1, 0, 0, 1, 0, 1] 9 [] [.down 0 0 5 4, .up 0 0 5 5] := qRP (n := 28) (g := g28) (p := [0, 1, 1, 1, 1, 1, 1, 1, 1, 0, 0, 1, 0, 0, 1, 0, 1]) (m := 9) (id := 12) (fr := []) (ps := [.down 0 0 5 4, .up 0 0 5 5]) rfl rfl rfl rfl
theorem q28_10100100111111111 : QS 28 g28 [1, 1, 1, 1, 1, 1, 1, 1, 1, 0, 0, 1, 0, 0, 1, 0, 1] := qS rfl
theorem q28_101001001111111110 : QRP 28 g28 [0, 1, 1, 1, 1, 1, 1, 1, 1, 1, 0, 0, 1, 0, 0, 1, 0, 1] 8 [] [.down 0 0 5 5] := qRP (n := 28) (g := g28) (p := [0, 1, 1, 1, 1, 1, 1, 1, 1, 1, 0, 0, 1, 0, 0, 1, 0, 1]) (m := 8) (id := 13) (fr := []) (ps := [.down 0 0 5 5]) rfl rfl rfl rfl
theorem q28_101001001111111111 : QR 28 g28 [1, 1, 1, 1, 1, 1, 1, 1, 1, 1, 0, 0, 1, 0, 0, 1, 0, 1] 3 := qR rfl rfl rfl rfl
theorem q28_1010011 : QR 28 g28 [1, 1, 0, 0, 1, 0, 1] 3 := qR rfl rfl rfl rfl
theorem q28_11 : QS 28 g28 [1, 1] := qS rfl
theorem q28_110 : QR 28 g28 [0, 1, 1] 2 := qR rfl rfl rfl rfl
theorem q28_111 : QT 28 g28 [1, 1, 1] := qT rfl
theorem q29_ : QS 29 g29 [] := qS rfl
theorem q29_0 : QR 29 g29 [0] 2 := qR rfl rfl rfl rfl
theorem q29_1 : QS 29 g29 [1] := qS rfl
theorem q29_10 : QR 29 g29 [0, 1] 5 := qR rfl rfl rfl rfl
theorem q29_11 : QS 29 g29 [1, 1] := qS rfl
theorem q29_110 : QS 29 g29 [0, 1, 1] := qS rfl
theorem q29_1100 : QR 29 g29 [0, 0, 1, 1] 2 := qR rfl rfl rfl rfl
theorem q29_1101 : QC 29 g29 [1, 0, 1, 1] 10 := qC rfl
theorem q29_11010 : QS 29 g29 [0, 1, 0, 1, 1] := qS rfl
theorem q29_110100 : QR 29 g29 [0, 0, 1, 0, 1, 1] 1 := qR rfl rfl rfl rfl
theorem q29_110101 : QT 29 g29 [1, 0, 1, 0, 1, 1] := qT rfl
theorem q29_11011 : QK 29 g29 [1, 1, 0, 1, 1] := qK rfl
theorem q29_111 : QS 29 g29 [1, 1, 1] := qS rfl
theorem q29_1110 : QR 29 g29 [0, 1, 1, 1] 5 := qR rfl rfl rfl rfl
theorem q29_1111 : QS 29 g29 [1, 1, 1, 1] := qS rfl
theorem q29_11110 : QS 29 g29 [0, 1, 1, 1, 1] := qS rfl
theorem q29_111100 : QR 29 g29 [0, 0, 1, 1, 1, 1] 2 := qR rfl rfl rfl rfl
theorem q29_111101 : QC 29 g29 [1, 0, 1, 1, 1, 1] 16 := qC rfl
theorem q29_1111010 : QS 29 g29 [0, 1, 0, 1, 1, 1, 1] := qS rfl
theorem q29_11110100 : QR 29 g29 [0, 0, 1, 0, 1, 1, 1, 1] 1 := qR rfl rfl rfl rfl
theorem q29_11110101 : QT 29 g29 [1, 0, 1, 0, 1, 1, 1, 1] := qT rfl
theorem q29_1111011 : QK 29 g29 [1, 1, 0, 1, 1, 1, 1] := qK rfl
theorem q29_11111 : QS 29 g29 [1, 1, 1, 1, 1] := qS rfl
theorem q29_111110 : QR 29 g29 [0, 1, 1, 1, 1, 1] 2 := qR rfl rfl rfl rfl
theorem q29_111111 : QT 29 g29 [1, 1, 1, 1, 1, 1] := qT rfl
theorem q30_ : QS 30 g30 [] := qS rfl
theorem q30_0 : QR 30 g30 [0] 1 := qR rfl rfl rfl rfl
theorem q30_1 : QS 30 g30 [1] := qS rfl
theorem q30_10 : QS 30 g30 [0, 1] := qS rfl
theorem q30_100 : QR 30 g30 [0, 0, 1] 1 := qR rfl rfl rfl rfl
theorem q30_101 : QB 30 g30 [1, 0, 1] 0 := qB rfl
theorem q30_1010 : QL 30 g30 [0, 1, 0, 1] 2 := qL rfl rfl
theorem q30_10100 : QS 30 g30 [0, 0, 1, 0, 1] := qS rfl
theorem q30_101000 : QS 30 g30 [0, 0, 0, 1, 0, 1] := qS rfl
theorem q30_1010000 : QR 30 g30 [0, 0, 0, 0, 1, 0, 1] 4 := qR rfl rfl rfl rfl
theorem q30_1010001 : QC 30 g30 [1, 0, 0, 0, 1, 0, 1] 9 := qC rfl
theorem q30_10100010 : QK 30 g30 [0, 1, 0, 0, 0, 1, 0, 1] := qK rfl
theorem q30_10100011 : QX 30 g30 [1, 1, 0, 0, 0, 1, 0, 1] 0 := qX rfl
theorem q30_101001 : QS 30 g30 [1, 0, 0, 1, 0, 1] := qS rfl
theorem q30_1010010 : QB 30 g30 [0, 1, 0, 0, 1, 0, 1] 1 := qB rfl
theorem q30_10100100 : QS 30 g30 [0, 0, 1, 0, 0, 1, 0, 1] := qS rfl
theorem q30_101001000 : QS 30 g30 [0, 0, 0, 1, 0, 0, 1, 0, 1] := qS rfl
theorem q30_1010010000 : QD 30 g30 [0, 0, 0, 0, 1, 0, 0, 1, 0, 1] 7 := qD rfl rfl rfl rfl
theorem q30_1010010001 : QC 30 g30 [1, 0, 0, 0, 1, 0, 0, 1, 0, 1] 18 := qC rfl
theorem q30_10100100010 : QS 30 g30 [0, 1, 0, 0, 0, 1, 0, 0, 1, 0, 1] := qS rfl
theorem q30_101001000100 : QR 30 g30 [0, 0, 1, 0, 0, 0, 1, 0, 0, 1, 0, 1] 1 := qR rfl rfl rfl rfl
theorem q30_101001000101 : QT 30 g30 [1, 0, 1, 0, 0, 0, 1, 0, 0, 1, 0, 1] := qT rfl
theorem q30_10100100011 : QK 30 g30 [1, 1, 0, 0, 0, 1, 0, 0, 1, 0, 1] := qK rfl
theorem q30_101001001 : QR 30 g30 [1, 0, 0, 1, 0, 0, 1, 0, 1] 3 := qR rfl rfl rfl rfl
theorem q30_1010011 : QR 30 g30 [1, 1, 0, 0, 1, 0, 1] 3 := qR rfl rfl rfl rfl
theorem q30_11 : QS 30 g30 [1, 1] := qS rfl
theorem q30_110 : QR 30 g30 [0, 1, 1] 2 := qR rfl rfl rfl rfl
theorem q30_111 : QT 30 g30 [1, 1, 1] := qT rfl
theorem q31_ : QS 31 g31 [] := qS rfl
theorem q31_0 : QR 31 g31 [0] 2 := qR rfl rfl rfl rfl
theorem q31_1 : QS 31 g31 [1] := qS rfl
theorem q31_10 : QR 31 g31 [0, 1] 5 := qR rfl rfl rfl rfl
theorem q31_11 : QS 31 g31 [1, 1] := qS rfl
theorem q31_110 : QS 31 g31 [0, 1, 1] := qS rfl
theorem q31_1100 : QR 31 g31 [0, 0, 1, 1] 2 := qR rfl rfl rfl rfl
theorem q31_1101 : QC 31 g31 [1, 0, 1, 1] 10 := qC rfl
theorem q31_11010 : QS 31 g31 [0, 1, 0, 1, 1] := qS rfl
theorem q31_110100 : QR 31 g31 [0, 0, 1, 0, 1, 1] 1 := qR rfl rfl rfl rfl
theorem q31_110101 : QT 31 g31 [1, 0, 1, 0, 1, 1] := qT rfl
theorem q31_11011 : QK 31 g31 [1, 1, 0, 1, 1] := qK rfl
theorem q31_111 : QS 31 g31 [1, 1, 1] := qS rfl
theorem q31_1110 : QR 31 g31 [0, 1, 1, 1] 5 := qR rfl rfl rfl rfl
theorem q31_1111 : QS 31 g31 [1, 1, 1, 1] := qS rfl
theorem q31_11110 : QS 31 g31 [0, 1, 1, 1, 1] := qS rfl
theorem q31_111100 : QR 31 g31 [0, 0, 1, 1, 1, 1] 2 := qR rfl rfl rfl rfl
theorem q31_111101 : QC 31 g31 [1, 0, 1, 1, 1, 1] 16 := qC rfl
theorem q31_1111010 : QS 31 g31 [0, 1, 0, 1, 1, 1, 1] := qS rfl
theorem q31_11110100 : QR 31 g31 [0, 0, 1, 0, 1, 1, 1, 1] 1 := qR rfl rfl rfl rfl
theorem q31_11110101 : QT 31 g31 [1, 0, 1, 0, 1, 1, 1, 1] := qT rfl
theorem q31_1111011 : QK 31 g31 [1, 1, 0, 1, 1, 1, 1] := qK rfl
theorem q31_11111 : QS 31 g31 [1, 1, 1, 1, 1] := qS rfl
theorem q31_111110 : QR 31 g31 [0, 1, 1, 1, 1, 1] 2 := qR rfl rfl rfl rfl
theorem q31_111111 : QT 31 g31 [1, 1, 1, 1, 1, 1] := qT rfl
theorem q32_ : QS 32 g32 [] := qS rfl
theorem q32_0 : QR 32 g32 [0] 1 := qR rfl rfl rfl rfl
theorem q32_1 : QS 32 g32 [1] := qS rfl
theorem q32_10 : QS 32 g32 [0, 1] := qS rfl
theorem q32_100 : QR 32 g32 [0, 0, 1] 1 := qR rfl rfl rfl rfl
theorem q32_101 : QB 32 g32 [1, 0, 1] 0 := qB rfl
theorem q32_1010 : QL 32 g32 [0, 1, 0, 1] 2 := qL rfl rfl
theorem q32_10100 : QS 32 g32 [0, 0, 1, 0, 1] := qS rfl
theorem q32_101000 : QS 32 g32 [0, 0, 0, 1, 0, 1] := qS rfl
theorem q32_1010000 : QR 32 g32 [0, 0, 0, 0, 1, 0, 1] 4 := qR rfl rfl rfl rfl
theorem q32_1010001 : QC 32 g32 [1, 0, 0, 0, 1, 0, 1] 9 := qC rfl
theorem q32_10100010 : QK 32 g32 [0, 1, 0, 0, 0, 1, 0, 1] := qK rfl
theorem q32_10100011 : QX 32 g32 [1, 1, 0, 0, 0, 1, 0, 1] 0 := qX rfl
theorem q32_101001 : QS 32 g32 [1, 0, 0, 1, 0, 1] := qS rfl
theorem q32_1010010 : QB 32 g32 [0, 1, 0, 0, 1, 0, 1] 1 := qB rfl
theorem q32_10100100 : QS 32 g32 [0, 0, 1, 0, 0, 1, 0, 1] := qS rfl
theorem q32_101001000 : QR 32 g32 [0, 0, 0, 1, 0, 0, 1, 0, 1] 8 := qR rfl rfl rfl rfl
theorem q32_101001001 : QS 32 g32 [1, 0, 0, 1, 0, 0, 1, 0, 1] := qS rfl
theorem q32_1010010010 : QS 32 g32 [0, 1, 0, 0, 1, 0, 0, 1, 0, 1] := qS rfl
theorem q32_10100100100 : QR 32 g32 [0, 0, 1, 0, 0, 1, 0, 0, 1, 0, 1] 2 := qR rfl rfl rfl rfl
theorem q32_10100100101 : QC 32 g32 [1, 0, 1, 0, 0, 1, 0, 0, 1, 0, 1] 20 := qC rfl
theorem q32_101001001010 : QS 32 g32 [0, 1, 0, 1, 0, 0, 1, 0, 0, 1, 0, 1] := qS rfl
theorem q32_1010010010100 : QR 32 g32 [0, 0, 1, 0, 1, 0, 0, 1, 0, 0, 1, 0, 1] 1 := qR rfl rfl rfl rfl
theorem q32_1010010010101 : QT 32 g32 [1, 0, 1, 0, 1, 0, 0, 1, 0, 0, 1, 0, 1] := qT rfl
theorem q32_101001001011 : QK 32 g32 [1, 1, 0, 1, 0, 0, 1, 0, 0, 1, 0, 1] := qK rfl
theorem q32_1010010011 : QS 32 g32 [1, 1, 0, 0, 1, 0, 0, 1, 0, 1] := qS rfl
theorem q32_10100100110 : QS 32 g32 [0, 1, 1, 0, 0, 1, 0, 0, 1, 0, 1] := qS rfl
theorem q32_101001001100 : QR 32 g32 [0, 0, 1, 1, 0, 0, 1, 0, 0, 1, 0, 1] 7 := qR rfl rfl rfl rfl
theorem q32_101001001101 : QC 32 g32 [1, 0, 1, 1, 0, 0, 1, 0, 0, 1, 0, 1] 27 := qC rfl
theorem q32_1010010011010 : QS 32 g32 [0, 1, 0, 1, 1, 0, 0, 1, 0, 0, 1, 0, 1] := qS rfl
theorem q32_10100100110100 : QR 32 g32 [0, 0, 1, 0, 1, 1, 0, 0, 1, 0, 0, 1, 0, 1] 1 := qR rfl rfl rfl rfl
theorem q32_10100100110101 : QT 32 g32 [1, 0, 1, 0, 1, 1, 0, 0, 1, 0, 0, 1, 0, 1] := qT rfl
theorem q32_1010010011011 : QK 32 g32 [1, 1, 0, 1, 1, 0, 0, 1, 0, 0, 1, 0, 1] := qK rfl
theorem q32_10100100111 : QS 32 g32 [1, 1, 1, 0, 0, 1, 0, 0, 1, 0, 1] := qS rfl
theorem q32_101001001110 : QR 32 g32 [0, 1, 1, 1, 0, 0, 1, 0, 0, 1, 0, 1] 3 := qR rfl rfl rfl rfl
theorem q32_101001001111 : QS 32 g32 [1, 1, 1, 1, 0, 0, 1, 0, 0, 1, 0, 1] := qS rfl
theorem q32_1010010011110 : QS 32 g32 [0, 1, 1, 1, 1, 0, 0, 1, 0, 0, 1, 0, 1] := qS rfl
theorem q32_10100100111100 : QR 32 g32 [0, 0, 1, 1, 1, 1, 0, 0, 1, 0, 0, 1, 0, 1] 7 := qR rfl rfl rfl rfl
theorem q32_10100100111101 : QC 32 g32 [1, 0, 1, 1, 1, 1, 0, 0, 1, 0, 0, 1, 0, 1] 36 := qC rfl
theorem q32_101001001111010 : QS 32 g32 [0, 1, 0, 1, 1, 1, 1, 0, 0, 1, 0, 0, 1, 0, 1] := qS rfl
theorem q32_1010010011110100 : QR 32 g32 [0, 0, 1, 0, 1, 1, 1, 1, 0, 0, 1, 0, 0, 1, 0, 1] 1 := qR rfl rfl rfl rfl
theorem q32_1010010011110101 : QT 32 g32 [1, 0, 1, 0, 1, 1, 1, 1, 0, 0, 1, 0, 0, 1, 0, 1] := qT rfl
theorem q32_101001001111011 : QK 32 g32 [1, 1, 0, 1, 1, 1, 1, 0, 0, 1, 0, 0, 1, 0, 1] := qK rfl
theorem q32_1010010011111 : QS 32 g32 [1, 1, 1, 1, 1, 0, 0, 1, 0, 0, 1, 0, 1] := qS rfl
theorem q32_10100100111110 : QR 32 g32 [0, 1, 1, 1, 1, 1, 0, 0, 1, 0, 0, 1, 0, 1] 3 := qR rfl rfl rfl rfl
theorem q32_10100100111111 : QS 32 g32 [1, 1, 1, 1, 1, 1, 0, 0, 1, 0, 0, 1, 0, 1] := qS rfl
theorem q32_101001001111110 : QS 32 g32 [0, 1, 1, 1, 1, 1, 1, 0, 0, 1, 0, 0, 1, 0, 1] := qS rfl
theorem q32_1010010011111100 : QR 32 g32 [0, 0, 1, 1, 1, 1, 1, 1, 0, 0, 1, 0, 0, 1, 0, 1] 9 := qR rfl rfl rfl rfl
theorem q32_1010010011111101 : QC 32 g32 [1, 0, 1, 1, 1, 1, 1, 1, 0, 0, 1, 0, 0, 1, 0, 1] 47 := qC rfl
theorem q32_10100100111111010 : QS 32 g32 [0, 1, 0, 1, 1, 1, 1, 1, 1, 0, 0, 1, 0, 0, 1, 0, 1] := qS rfl
theorem q32_101001001111110100 : QR 32 g32 [0, 0, 1, 0, 1, 1, 1, 1, 1, 1, 0, 0, 1, 0, 0, 1, 0, 1] 1 := qR rfl rfl rfl rfl
theorem q32_101001001111110101 : QT 32 g32 [1, 0, 1, 0, 1, 1, 1, 1, 1, 1, 0, 0, 1, 0, 0, 1, 0, 1] := qT rfl
theorem q32_10100100111111011 : QK 32 g32 [1, 1, 0, 1, 1, 1, 1, 1, 1, 0, 0, 1, 0, 0, 1, 0, 1] := qK rfl
theorem q32_101001001111111 : QS 32 g32 [1, 1, 1, 1, 1, 1, 1, 0, 0, 1, 0, 0, 1, 0, 1] := qS rfl
theorem q32_1010010011111110 : QR 32 g32 [0, 1, 1, 1, 1, 1, 1, 1, 0, 0, 1, 0, 0, 1, 0, 1] 3 := qR rfl rfl rfl rfl
theorem q32_1010010011111111 : QS 32 g32 [1, 1, 1, 1, 1, 1, 1, 1, 0, 0, 1, 0, 0, 1, 0, 1] := qS rfl
theorem q32_10100100111111110 : QR 32 g32 [0, 1, 1, 1, 1, 1, 1, 1, 1, 0, 0, 1, 0, 0, 1, 0, 1] 9 := qR rfl rfl rfl rfl
theorem q32_10100100111111111 : QS 32 g32 [1, 1, 1, 1, 1, 1, 1, 1, 1, 0, 0, 1, 0, 0, 1, 0, 1] := qS rfl
theorem q32_101001001111111110 : QS 32 g32 [0, 1, 1, 1, 1, 1, 1, 1, 1, 1, 0, 0, 1, 0, 0, 1, 0, 1] := qS rfl
theorem q32_1010010011111111100 : QR 32 g32 [0, 0, 1, 1, 1, 1, 1, 1, 1, 1, 1, 0, 0, 1, 0, 0, 1, 0, 1] 2 := qR rfl rfl rfl rfl
theorem q32_1010010011111111101 : QC 32 g32 [1, 0, 1, 1, 1, 1, 1, 1, 1, 1, 1, 0, 0, 1, 0, 0, 1, 0, 1] 59 := qC rfl
theorem q32_10100100111111111010 : QS 32 g32 [0, 1, 0, 1, 1, 1, 1, 1, 1, 1, 1, 1, 0, 0, 1, 0, 0, 1, 0, 1] := qS rfl
theorem q32_101001001111111110100 : QR 32 g32 [0, 0, 1, 0, 1, 1, 1, 1, 1, 1, 1, 1, 1, 0, 0, 1, 0, 0, 1, 0, 1] 1 := qR rfl rfl rfl rfl
theorem q32_101001001111111110101 : QT 32 g32 [1, 0, 1, 0, 1, 1, 1, 1, 1, 1, 1, 1, 1, 0, 0, 1, 0, 0, 1, 0, 1] := qT rfl
theorem q32_10100100111111111011 : QK 32 g32 [1, 1, 0, 1, 1, 1, 1, 1, 1, 1, 1, 1, 0, 0, 1, 0, 0, 1, 0, 1] := qK rfl
theorem q32_101001001111111111 : QS 32 g32 [1, 1, 1, 1, 1, 1, 1, 1, 1, 1, 0, 0, 1, 0, 0, 1, 0, 1] := qS rfl
theorem q32_1010010011111111110 : QR 32 g32 [0, 1, 1, 1, 1, 1, 1, 1, 1, 1, 1, 0, 0, 1, 0, 0, 1, 0, 1] 9 := qR rfl rfl rfl rfl
theorem q32_1010010011111111111 : QS 32 g32 [1, 1, 1, 1, 1, 1, 1, 1, 1, 1, 1, 0, 0, 1, 0, 0, 1, 0, 1] := qS rfl
theorem q32_10100100111111111110 : QS 32 g32 [0, 1, 1, 1, 1, 1, 1, 1, 1, 1, 1, 1, 0, 0, 1, 0, 0, 1, 0, 1] := qS rfl
theorem q32_101001001111111111100 : QR 32 g32 [0, 0, 1, 1, 1, 1, 1, 1, 1, 1, 1, 1, 1, 0, 0, 1, 0, 0, 1, 0, 1] 2 := qR rfl rfl rfl rfl
theorem q32_101001001111111111101 : QC 32 g32 [1, 0, 1, 1, 1, 1, 1, 1, 1, 1, 1, 1, 1, 0, 0, 1, 0, 0, 1, 0, 1] 69 := qC rfl
theorem q32_1010010011111111111010 : QS 32 g32 [0, 1, 0, 1, 1, 1, 1, 1, 1, 1, 1, 1, 1, 1, 0, 0, 1, 0, 0, 1, 0, 1] := qS rfl
theorem q32_10100100111111111110100 : QR 32 g32 [0, 0, 1, 0, 1, 1, 1, 1, 1, 1, 1, 1, 1, 1, 1, 0, 0, 1, 0, 0, 1, 0, 1] 1 := qR rfl rfl rfl rfl
theorem q32_10100100111111111110101 : QT 32 g32 [1, 0, 1, 0, 1, 1, 1, 1, 1, 1, 1, 1, 1, 1, 1, 0, 0, 1, 0, 0, 1, 0, 1] := qT rfl
theorem q32_1010010011111111111011 : QK 32 g32 [1, 1, 0, 1, 1, 1, 1, 1, 1, 1, 1, 1, 1, 1, 0, 0, 1, 0, 0, 1, 0, 1] := qK rfl
theorem q32_10100100111111111111 : QS 32 g32 [1, 1, 1, 1, 1, 1, 1, 1, 1, 1, 1, 1, 0, 0, 1, 0, 0, 1, 0, 1] := qS rfl
theorem q32_101001001111111111110 : QS 32 g32 [0, 1, 1, 1, 1, 1, 1, 1, 1, 1, 1, 1, 1, 0, 0, 1, 0, 0, 1, 0, 1] := qS rfl
theorem q32_1010010011111111111100 : QD 32 g32 [0, 0, 1, 1, 1, 1, 1, 1, 1, 1, 1, 1, 1, 1, 0, 0, 1, 0, 0, 1, 0, 1] 9 := qD rfl rfl rfl rfl
theorem q32_1010010011111111111101 : QC 32 g32 [1, 0, 1, 1, 1, 1, 1, 1, 1, 1, 1, 1, 1, 1, 0, 0, 1, 0, 0, 1, 0, 1] 78 := qC rfl
theorem q32_10100100111111111111010 : QS 32 g32 [0, 1, 0, 1, 1, 1, 1, 1, 1, 1, 1, 1, 1, 1, 1, 0, 0, 1, 0, 0, 1, 0, 1] := qS rfl
theorem q32_101001001111111111110100 : QR 32 g32 [0, 0, 1, 0, 1, 1, 1, 1, 1, 1, 1, 1, 1, 1, 1, 1, 0, 0, 1, 0, 0, 1, 0, 1] 1 := qR rfl rfl rfl rfl
theorem q32_101001001111111111110101 : QT 32 g32 [1, 0, 1, 0, 1, 1, 1, 1, 1, 1, 1, 1, 1, 1, 1, 1, 0, 0, 1, 0, 0, 1, 0, 1] := qT rfl
theorem q32_10100100111111111111011 : QK 32 g32 [1, 1, 0, 1, 1, 1, 1, 1, 1, 1, 1, 1, 1, 1, 1, 0, 0, 1, 0, 0, 1, 0, 1] := qK rfl
theorem q32_101001001111111111111 : QR 32 g32 [1, 1, 1, 1, 1, 1, 1, 1, 1, 1, 1, 1, 1, 0, 0, 1, 0, 0, 1, 0, 1] 3 := qR rfl rfl rfl rfl
theorem q32_1010011 : QR 32 g32 [1, 1, 0, 0, 1, 0, 1] 3 := qR rfl rfl rfl rfl
theorem q32_11 : QS 32 g32 [1, 1] := qS rfl
theorem q32_110 : QR 32 g32 [0, 1, 1] 2 := qR rfl rfl rfl rfl
theorem q32_111 : QT 32 g32 [1, 1, 1] := qT rfl
theorem q33_ : QS 33 g33 [] := qS rfl
theorem q33_0 : QR 33 g33 [0] 1 := qR rfl rfl rfl rfl
theorem q33_1 : QS 33 g33 [1] := qS rfl
theorem q33_10 : QR 33 g33 [0, 1] 5 := qR rfl rfl rfl rfl
theorem q33_11 : QS 33 g33 [1, 1] := qS rfl
theorem q33_110 : QS 33 g33 [0, 1, 1] := qS rfl
theorem q33_1100 : QR 33 g33 [0, 0, 1, 1] 2 := qR rfl rfl rfl rfl
theorem q33_1101 : QC 33 g33 [1, 0, 1, 1] 10 := qC rfl
theorem q33_11010 : QS 33 g33 [0, 1, 0, 1, 1] := qS rfl
theorem q33_110100 : QR 33 g33 [0, 0, 1, 0, 1, 1] 1 := qR rfl rfl rfl rfl
theorem q33_110101 : QT 33 g33 [1, 0, 1, 0, 1, 1] := qT rfl
theorem q33_11011 : QK 33 g33 [1, 1, 0, 1, 1] := qK rfl
theorem q33_111 : QS 33 g33 [1, 1, 1] := qS rfl
theorem q33_1110 : QR 33 g33 [0, 1, 1, 1] 2 := qR rfl rfl rfl rfl
theorem q33_1111 : QT 33 g33 [1, 1, 1, 1] := qT rfl
theorem q34_ : QS 34 g34 [] := qS rfl
theorem q34_0 : QR 34 g34 [0] 1 := qR rfl rfl rfl rfl
theorem q34_1 : QS 34 g34 [1] := qS rfl
theorem q34_10 : QR 34 g34 [0, 1] 5 := qR rfl rfl rfl rfl
theorem q34_11 : QS 34 g34 [1, 1] := qS rfl
theorem q34_110 : QS 34 g34 [0, 1, 1] := qS rfl
theorem q34_1100 : QR 34 g34 [0, 0, 1, 1] 2 := qR rfl rfl rfl rfl
theorem q34_1101 : QC 34 g34 [1, 0, 1, 1] 11 := qC rfl
theorem q34_11010 : QS 34 g34 [0, 1, 0, 1, 1] := qS rfl
theorem q34_110100 : QR 34 g34 [0, 0, 1, 0, 1, 1] 1 := qR rfl rfl rfl rfl
theorem q34_110101 : QT 34 g34 [1, 0, 1, 0, 1, 1] := qT rfl
theorem q34_11011 : QK 34 g34 [1, 1, 0, 1, 1] := qK rfl
theorem q34_111 : QS 34 g34 [1, 1, 1] := qS rfl
theorem q34_1110 : QS 34 g34 [0, 1, 1, 1] := qS rfl
theorem q34_11100 : QR 34 g34 [0, 0, 1, 1, 1] 1 := qR rfl rfl rfl rfl
theorem q34_11101 : QB 34 g34 [1, 0, 1, 1, 1] 0 := qB rfl
theorem q34_111010 : QL 34 g34 [0, 1, 0, 1, 1, 1] 5 := qL rfl rfl
theorem q34_1110100 : QS 34 g34 [0, 0, 1, 0, 1, 1, 1] := qS rfl
theorem q34_11101000 : QS 34 g34 [0, 0, 0, 1, 0, 1, 1, 1] := qS rfl
theorem q34_111010000 : QR 34 g34 [0, 0, 0, 0, 1, 0, 1, 1, 1] 4 := qR rfl rfl rfl rfl
theorem q34_111010001 : QC 34 g34 [1, 0, 0, 0, 1, 0, 1, 1, 1] 15 := qC rfl
theorem q34_1110100010 : QK 34 g34 [0, 1, 0, 0, 0, 1, 0, 1, 1, 1] := qK rfl
theorem q34_1110100011 : QX 34 g34 [1, 1, 0, 0, 0, 1, 0, 1, 1, 1] 0 := qX rfl
theorem q34_11101001 : QS 34 g34 [1, 0, 0, 1, 0, 1, 1, 1] := qS rfl
theorem q34_111010010 : QB 34 g34 [0, 1, 0, 0, 1, 0, 1, 1, 1] 1 := qB rfl
theorem q34_1110100100 : QS 34 g34 [0, 0, 1, 0, 0, 1, 0, 1, 1, 1] := qS rfl
theorem q34_11101001000 : QR 34 g34 [0, 0, 0, 1, 0, 0, 1, 0, 1, 1, 1] 7 := qR rfl rfl rfl rfl
theorem q34_11101001001 : QS 34 g34 [1, 0, 0, 1, 0, 0, 1, 0, 1, 1, 1] := qS rfl
theorem q34_111010010010 : QR 34 g34 [0, 1, 0, 0, 1, 0, 0, 1, 0, 1, 1, 1] 2 := qR rfl rfl rfl rfl
theorem q34_111010010011 : QC 34 g34 [1, 1, 0, 0, 1, 0, 0, 1, 0, 1, 1, 1] 25 := qC rfl
theorem q34_1110100100110 : QS 34 g34 [0, 1, 1, 0, 0, 1, 0, 0, 1, 0, 1, 1, 1] := qS rfl
theorem q34_11101001001100 : QR 34 g34 [0, 0, 1, 1, 0, 0, 1, 0, 0, 1, 0, 1, 1, 1] 1 := qR rfl rfl rfl rfl
theorem q34_11101001001101 : QT 34 g34 [1, 0, 1, 1, 0, 0, 1, 0, 0, 1, 0, 1, 1, 1] := qT rfl
theorem q34_1110100100111 : QK 34 g34 [1, 1, 1, 0, 0, 1, 0, 0, 1, 0, 1, 1, 1] := qK rfl
theorem q34_111010011 : QR 34 g34 [1, 1, 0, 0, 1, 0, 1, 1, 1] 3 := qR rfl rfl rfl rfl
theorem q34_1111 : QS 34 g34 [1, 1, 1, 1] := qS rfl
theorem q34_11110 : QR 34 g34 [0, 1, 1, 1, 1] 2 := qR rfl rfl rfl rfl
theorem q34_11111 : QT 34 g34 [1, 1, 1, 1, 1] := qT rfl
theorem q35_ : QS 35 g35 [] := qS rfl
theorem q35_0 : QR 35 g35 [0] 1 := qR rfl rfl rfl rfl
theorem q35_1 : QS 35 g35 [1] := qS rfl
theorem q35_10 : QR 35 g35 [0, 1] 5 := qR rfl rfl rfl rfl
theorem q35_11 : QS 35 g35 [1, 1] := qS rfl
theorem q35_110 : QS 35 g35 [0, 1, 1] := qS rfl
theorem q35_1100 : QR 35 g35 [0, 0, 1, 1] 2 := qR rfl rfl rfl rfl
theorem q35_1101 : QC 35 g35 [1, 0, 1, 1] 11 := qC rfl
theorem q35_11010 : QS 35 g35 [0, 1, 0, 1, 1] := qS rfl
theorem q35_110100 : QR 35 g35 [0, 0, 1, 0, 1, 1] 1 := qR rfl rfl rfl rfl
theorem q35_110101 : QT 35 g35 [1, 0, 1, 0, 1, 1] := qT rfl
theorem q35_11011 : QK 35 g35 [1, 1, 0, 1, 1] := qK rfl
theorem q35_111 : QS 35 g35 [1, 1, 1] := qS rfl
theorem q35_1110 : QS 35 g35 [0, 1, 1, 1] := qS rfl
theorem q35_11100 : QR 35 g35 [0, 0, 1, 1, 1] 1 := qR rfl rfl rfl rfl
theorem q35_11101 : QB 35 g35 [1, 0, 1, 1, 1] 0 := qB rfl
theorem q35_111010 : QL 35 g35 [0, 1, 0, 1, 1, 1] 5 := qL rfl rfl
theorem q35_1110100 : QS 35 g35 [0, 0, 1, 0, 1, 1, 1] := qS rfl
theorem q35_11101000 : QS 35 g35 [0, 0, 0, 1, 0, 1, 1, 1] := qS rfl
theorem q35_111010000 : QR 35 g35 [0, 0, 0, 0, 1, 0, 1, 1, 1] 4 := qR rfl rfl rfl rfl
theorem q35_111010001 : QC 35 g35 [1, 0, 0, 0, 1, 0, 1, 1, 1] 15 := qC rfl
theorem q35_1110100010 : QK 35 g35 [0, 1, 0, 0, 0, 1, 0, 1, 1, 1] := qK rfl
theorem q35_1110100011 : QX 35 g35 [1, 1, 0, 0, 0, 1, 0, 1, 1, 1] 0 := qX rfl
theorem q35_11101001 : QS 35 g35 [1, 0, 0, 1, 0, 1, 1, 1] := qS rfl
theorem q35_111010010 : QB 35 g35 [0, 1, 0, 0, 1, 0, 1, 1, 1] 1 := qB rfl
theorem q35_1110100100 : QS 35 g35 [0, 0, 1, 0, 0, 1, 0, 1, 1, 1] := qS rfl
theorem q35_11101001000 : QR 35 g35 [0, 0, 0, 1, 0, 0, 1, 0, 1, 1, 1] 7 := qR rfl rfl rfl rfl
theorem q35_11101001001 : QS 35 g35 [1, 0, 0, 1, 0, 0, 1, 0, 1, 1, 1] := qS rfl
theorem q35_111010010010 : QR 35 g35 [0, 1, 0, 0, 1, 0, 0, 1, 0, 1, 1, 1] 2 := qR rfl rfl rfl rfl
theorem q35_111010010011 : QC 35 g35 [1, 1, 0, 0, 1, 0, 0, 1, 0, 1, 1, 1] 25 := qC rfl
theorem q35_1110100100110 : QS 35 g35 [0, 1, 1, 0, 0, 1, 0, 0, 1, 0, 1, 1, 1] := qS rfl
theorem q35_11101001001100 : QR 35 g35 [0, 0, 1, 1, 0, 0, 1, 0, 0, 1, 0, 1, 1, 1] 1 := qR rfl rfl rfl rfl
theorem q35_11101001001101 : QT 35 g35 [1, 0, 1, 1, 0, 0, 1, 0, 0, 1, 0, 1, 1, 1] := qT rfl
theorem q35_1110100100111 : QK 35 g35 [1, 1, 1, 0, 0, 1, 0, 0, 1, 0, 1, 1, 1] := qK rfl
theorem q35_111010011 : QR 35 g35 [1, 1, 0, 0, 1, 0, 1, 1, 1] 3 := qR rfl rfl rfl rfl
theorem q35_1111 : QS 35 g35 [1, 1, 1, 1] := qS rfl
theorem q35_11110 : QR 35 g35 [0, 1, 1, 1, 1] 2 := qR rfl rfl rfl rfl
theorem q35_11111 : QT 35 g35 [1, 1, 1, 1, 1] := qT rfl
theorem q36_ : QS 36 g36 [] := qS rfl
theorem q36_0 : QR 36 g36 [0] 2 := qR rfl rfl rfl rfl
theorem q36_1 : QS 36 g36 [1] := qS rfl
theorem q36_10 : QR 36 g36 [0, 1] 5 := qR rfl rfl rfl rfl
theorem q36_11 : QS 36 g36 [1, 1] := qS rfl
theorem q36_110 : QS 36 g36 [0, 1, 1] := qS rfl
theorem q36_1100 : QR 36 g36 [0, 0, 1, 1] 2 := qR rfl rfl rfl rfl
theorem q36_1101 : QC 36 g36 [1, 0, 1, 1] 10 := qC rfl
theorem q36_11010 : QS 36 g36 [0, 1, 0, 1, 1] := qS rfl
theorem q36_110100 : QR 36 g36 [0, 0, 1, 0, 1, 1] 1 := qR rfl rfl rfl rfl
theorem q36_110101 : QT 36 g36 [1, 0, 1, 0, 1, 1] := qT rfl
theorem q36_11011 : QK 36 g36 [1, 1, 0, 1, 1] := qK rfl
theorem q36_111 : QS 36 g36 [1, 1, 1] := qS rfl
theorem q36_1110 : QR 36 g36 [0, 1, 1, 1] 5 := qR rfl rfl rfl rfl
theorem q36_1111 : QS 36 g36 [1, 1, 1, 1] := qS rfl
theorem q36_11110 : QS 36 g36 [0, 1, 1, 1, 1] := qS rfl
theorem q36_111100 : QR 36 g36 [0, 0, 1, 1, 1, 1] 2 := qR rfl rfl rfl rfl
theorem q36_111101 : QC 36 g36 [1, 0, 1, 1, 1, 1] 16 := qC rfl
theorem q36_1111010 : QS 36 g36 [0, 1, 0, 1, 1, 1, 1] := qS rfl
theorem q36_11110100 : QR 36 g36 [0, 0, 1, 0, 1, 1, 1, 1] 1 := qR rfl rfl rfl rfl
theorem q36_11110101 : QT 36 g36 [1, 0, 1, 0, 1, 1, 1, 1] := qT rfl
theorem q36_1111011 : QK 36 g36 [1, 1, 0, 1, 1, 1, 1] := qK rfl
theorem q36_11111 : QS 36 g36 [1, 1, 1, 1, 1] := qS rfl
theorem q36_111110 : QR 36 g36 [0, 1, 1, 1, 1, 1] 2 := qR rfl rfl rfl rfl
theorem q36_111111 : QT 36 g36 [1, 1, 1, 1, 1, 1] := qT rfl
theorem q37_ : QS 37 g37 [] := qS rfl
theorem q37_0 : QR 37 g37 [0] 2 := qR rfl rfl rfl rfl
theorem q37_1 : QS 37 g37 [1] := qS rfl
theorem q37_10 : QD 37 g37 [0, 1] 12 := qD rfl rfl rfl rfl
theorem q37_11 : QT 37 g37 [1, 1] := qT rfl
theorem q38_ : QS 38 g38 [] := qS rfl
theorem q38_0 : QR 38 g38 [0] 1 := qR rfl rfl rfl rfl
theorem q38_1 : QS 38 g38 [1] := qS rfl
theorem q38_10 : QR 38 g38 [0, 1] 4 := qR rfl rfl rfl rfl
theorem q38_11 : QS 38 g38 [1, 1] := qS rfl
theorem q38_110 : QS 38 g38 [0, 1, 1] := qS rfl
theorem q38_1100 : QR 38 g38 [0, 0, 1, 1] 1 := qR rfl rfl rfl rfl
theorem q38_1101 : QB 38 g38 [1, 0, 1, 1] 0 := qB rfl
theorem q38_11010 : QL 38 g38 [0, 1, 0, 1, 1] 3 := qL rfl rfl
theorem q38_110100 : QS 38 g38 [0, 0, 1, 0, 1, 1] := qS rfl
theorem q38_1101000 : QS 38 g38 [0, 0, 0, 1, 0, 1, 1] := qS rfl
theorem q38_11010000 : QR 38 g38 [0, 0, 0, 0, 1, 0, 1, 1] 4 := qR rfl rfl rfl rfl
theorem q38_11010001 : QC 38 g38 [1, 0, 0, 0, 1, 0, 1, 1] 11 := qC rfl
theorem q38_110100010 : QK 38 g38 [0, 1, 0, 0, 0, 1, 0, 1, 1] := qK rfl
theorem q38_110100011 : QX 38 g38 [1, 1, 0, 0, 0, 1, 0, 1, 1] 0 := qX rfl
theorem q38_1101001 : QS 38 g38 [1, 0, 0, 1, 0, 1, 1] := qS rfl
theorem q38_11010010 : QB 38 g38 [0, 1, 0, 0, 1, 0, 1, 1] 1 := qB rfl
theorem q38_110100100 : QR 38 g38 [0, 0, 1, 0, 0, 1, 0, 1, 1] 9 := qR rfl rfl rfl rfl
theorem q38_11010011 : QR 38 g38 [1, 1, 0, 0, 1, 0, 1, 1] 3 := qR rfl rfl rfl rfl
theorem q38_111 : QS 38 g38 [1, 1, 1] := qS rfl
theorem q38_1110 : QR 38 g38 [0, 1, 1, 1] 2 := qR rfl rfl rfl rfl
theorem q38_1111 : QT 38 g38 [1, 1, 1, 1] := qT rfl
theorem q39_ : QS 39 g39 [] := qS rfl
theorem q39_0 : QR 39 g39 [0] 1 := qR rfl rfl rfl rfl
theorem q39_1 : QS 39 g39 [1] := qS rfl
theorem q39_10 : QR 39 g39 [0, 1] 4 := qR rfl rfl rfl rfl
theorem q39_11 : QS 39 g39 [1, 1] := qS rfl
theorem q39_110 : QS 39 g39 [0, 1, 1] := qS rfl
theorem q39_1100 : QR 39 g39 [0, 0, 1, 1] 1 := qR rfl rfl rfl rfl
theorem q39_1101 : QB 39 g39 [1, 0, 1, 1] 0 := qB rfl
theorem q39_11010 : QL 39 g39 [0, 1, 0, 1, 1] 3 := qL rfl rfl
theorem q39_110100 : QS 39 g39 [0, 0, 1, 0, 1, 1] := qS rfl
theorem q39_1101000 : QS 39 g39 [0, 0, 0, 1, 0, 1, 1] := qS rfl
theorem q39_11010000 : QR 39 g39 [0, 0, 0, 0, 1, 0, 1, 1] 4 := qR rfl rfl rfl rfl
theorem q39_11010001 : QC 39 g39 [1, 0, 0, 0, 1, 0, 1, 1] 11 := qC rfl
theorem q39_110100010 : QK 39 g39 [0, 1, 0, 0, 0, 1, 0, 1, 1] := qK rfl
theorem q39_110100011 : QX 39 g39 [1, 1, 0, 0, 0, 1, 0, 1, 1] 0 := qX rfl
theorem q39_1101001 : QS 39 g39 [1, 0, 0, 1, 0, 1, 1] := qS rfl
theorem q39_11010010 : QB 39 g39 [0, 1, 0, 0, 1, 0, 1, 1] 1 := qB rfl
theorem q39_110100100 : QR 39 g39 [0, 0, 1, 0, 0, 1, 0, 1, 1] 9 := qR rfl rfl rfl rfl
theorem q39_11010011 : QR 39 g39 [1, 1, 0, 0, 1, 0, 1, 1] 3 := qR rfl rfl rfl rfl
theorem q39_111 : QS 39 g39 [1, 1, 1] := qS rfl
theorem q39_1110 : QR 39 g39 [0, 1, 1, 1] 2 := qR rfl rfl rfl rfl
theorem q39_1111 : QT 39 g39 [1, 1, 1, 1] := qT rfl
theorem q40_ : QS 40 g40 [] := qS rfl
theorem q40_0 : QR 40 g40 [0] 1 := qR rfl rfl rfl rfl
theorem q40_1 : QS 40 g40 [1] := qS rfl
theorem q40_10 : QR 40 g40 [0, 1] 4 := qR rfl rfl rfl rfl
theorem q40_11 : QS 40 g40 [1, 1] := qS rfl
theorem q40_110 : QS 40 g40 [0, 1, 1] := qS rfl
theorem q40_1100 : QR 40 g40 [0, 0, 1, 1] 1 := qR rfl rfl rfl rfl
theorem q40_1101 : QB 40 g40 [1, 0, 1, 1] 0 := qB rfl
theorem q40_11010 : QL 40 g40 [0, 1, 0, 1, 1] 3 := qL rfl rfl
theorem q40_110100 : QS 40 g40 [0, 0, 1, 0, 1, 1] := qS rfl
theorem q40_1101000 : QS 40 g40 [0, 0, 0, 1, 0, 1, 1] := qS rfl
theorem q40_11010000 : QR 40 g40 [0, 0, 0, 0, 1, 0, 1, 1] 4 := qR rfl rfl rfl rfl
theorem q40_11010001 : QC 40 g40 [1, 0, 0, 0, 1, 0, 1, 1] 11 := qC rfl
theorem q40_110100010 : QK 40 g40 [0, 1, 0, 0, 0, 1, 0, 1, 1] := qK rfl
theorem q40_110100011 : QX 40 g40 [1, 1, 0, 0, 0, 1, 0, 1, 1] 0 := qX rfl
theorem q40_1101001 : QS 40 g40 [1, 0, 0, 1, 0, 1, 1] := qS rfl
theorem q40_11010010 : QB 40 g40 [0, 1, 0, 0, 1, 0, 1, 1] 1 := qB rfl
theorem q40_110100100 : QR 40 g40 [0, 0, 1, 0, 0, 1, 0, 1, 1] 9 := qR rfl rfl rfl rfl
theorem q40_11010011 : QR 40 g40 [1, 1, 0, 0, 1, 0, 1, 1] 3 := qR rfl rfl rfl rfl
theorem q40_111 : QS 40 g40 [1, 1, 1] := qS rfl
theorem q40_1110 : QR 40 g40 [0, 1, 1, 1] 2 := qR rfl rfl rfl rfl
theorem q40_1111 : QT 40 g40 [1, 1, 1, 1] := qT rfl
theorem q41_ : QS 41 g41 [] := qS rfl
theorem q41_0 : QR 41 g41 [0] 2 := qR rfl rfl rfl rfl
theorem q41_1 : QS 41 g41 [1] := qS rfl
theorem q41_10 : QR 41 g41 [0, 1] 1 := qR rfl rfl rfl rfl
theorem q41_11 : QS 41 g41 [1, 1] := qS rfl
theorem q41_110 : QR 41 g41 [0, 1, 1] 5 := qR rfl rfl rfl rfl
theorem q41_111 : QS 41 g41 [1, 1, 1] := qS rfl
theorem q41_1110 : QR 41 g41 [0, 1, 1, 1] 4 := qR rfl rfl rfl rfl
theorem q41_1111 : QS 41 g41 [1, 1, 1, 1] := qS rfl
theorem q41_11110 : QR 41 g41 [0, 1, 1, 1, 1] 4 := qR rfl rfl rfl rfl
theorem q41_11111 : QS 41 g41 [1, 1, 1, 1, 1] := qS rfl
theorem q41_111110 : QR 41 g41 [0, 1, 1, 1, 1, 1] 4 := qR rfl rfl rfl rfl
theorem q41_111111 : QS 41 g41 [1, 1, 1, 1, 1, 1] := qS rfl
theorem q41_1111110 : QR 41 g41 [0, 1, 1, 1, 1, 1, 1] 5 := qR rfl rfl rfl rfl
theorem q41_1111111 : QS 41 g41 [1, 1, 1, 1, 1, 1, 1] := qS rfl
theorem q41_11111110 : QR 41 g41 [0, 1, 1, 1, 1, 1, 1, 1] 2 := qR rfl rfl rfl rfl
theorem q41_11111111 : QT 41 g41 [1, 1, 1, 1, 1, 1, 1, 1] := qT rfl
theorem q42_ : QS 42 g42 [] := qS rfl
theorem q42_0 : QR 42 g42 [0] 2 := qR rfl rfl rfl rfl
theorem q42_1 : QS 42 g42 [1] := qS rfl
theorem q42_10 : QD 42 g42 [0, 1] 11 := qD rfl rfl rfl rfl
theorem q42_11 : QS 42 g42 [1, 1] := qS rfl
theorem q42_110 : QR 42 g42 [0, 1, 1] 2 := qR rfl rfl rfl rfl
theorem q42_111 : QT 42 g42 [1, 1, 1] := qT rfl
theorem q43_ : QS 43 g43 [] := qS rfl
theorem q43_0 : QR 43 g43 [0] 1 := qR rfl rfl rfl rfl
theorem q43_1 : QS 43 g43 [1] := qS rfl
theorem q43_10 : QR 43 g43 [0, 1] 4 := qR rfl rfl rfl rfl
theorem q43_11 : QT 43 g43 [1, 1] := qT rfl
theorem q44_ : QS 44 g44 [] := qS rfl
theorem q44_0 : QR 44 g44 [0] 2 := qR rfl rfl rfl rfl
theorem q44_1 : QS 44 g44 [1] := qS rfl
theorem q44_10 : QD 44 g44 [0, 1] 12 := qD rfl rfl rfl rfl
theorem q44_11 : QS 44 g44 [1, 1] := qS rfl
theorem q44_110 : QR 44 g44 [0, 1, 1] 2 := qR rfl rfl rfl rfl
theorem q44_111 : QT 44 g44 [1, 1, 1] := qT rfl
theorem q45_ : QS 45 g45 [] := qS rfl
theorem q45_0 : QR 45 g45 [0] 1 := qR rfl rfl rfl rfl
theorem q45_1 : QS 45 g45 [1] := qS rfl
theorem q45_10 : QS 45 g45 [0, 1] := qS rfl
theorem q45_100 : QR 45 g45 [0, 0, 1] 5 := qR rfl rfl rfl rfl
theorem q45_101 : QC 45 g45 [1, 0, 1] 10 := qC rfl
theorem q45_1010 : QS 45 g45 [0, 1, 0, 1] := qS rfl
theorem q45_10100 : QR 45 g45 [0, 0, 1, 0, 1] 1 := qR rfl rfl rfl rfl
theorem q45_10101 : QT 45 g45 [1, 0, 1, 0, 1] := qT rfl
theorem q45_1011 : QK 45 g45 [1, 1, 0, 1] := qK rfl
theorem q45_11 : QS 45 g45 [1, 1] := qS rfl
theorem q45_110 : QS 45 g45 [0, 1, 1] := qS rfl
theorem q45_1100 : QR 45 g45 [0, 0, 1, 1] 1 := qR rfl rfl rfl rfl
theorem q45_1101 : QB 45 g45 [1, 0, 1, 1] 0 := qB rfl
theorem q45_11010 : QL 45 g45 [0, 1, 0, 1, 1] 4 := qL rfl rfl
theorem q45_110100 : QS 45 g45 [0, 0, 1, 0, 1, 1] := qS rfl
theorem q45_1101000 : QS 45 g45 [0, 0, 0, 1, 0, 1, 1] := qS rfl
theorem q45_11010000 : QR 45 g45 [0, 0, 0, 0, 1, 0, 1, 1] 4 := qR rfl rfl rfl rfl
theorem q45_11010001 : QC 45 g45 [1, 0, 0, 0, 1, 0, 1, 1] 14 := qC rfl
theorem q45_110100010 : QK 45 g45 [0, 1, 0, 0, 0, 1, 0, 1, 1] := qK rfl
theorem q45_110100011 : QX 45 g45 [1, 1, 0, 0, 0, 1, 0, 1, 1] 0 := qX rfl
theorem q45_1101001 : QS 45 g45 [1, 0, 0, 1, 0, 1, 1] := qS rfl
theorem q45_11010010 : QB 45 g45 [0, 1, 0, 0, 1, 0, 1, 1] 1 := qB rfl
theorem q45_110100100 : QS 45 g45 [0, 0, 1, 0, 0, 1, 0, 1, 1] := qS rfl
theorem q45_1101001000 : QD 45 g45 [0, 0, 0, 1, 0, 0, 1, 0, 1, 1] 10 := qD rfl rfl rfl rfl
theorem q45_1101001001 : QC 45 g45 [1, 0, 0, 1, 0, 0, 1, 0, 1, 1] 26 := qC rfl
theorem q45_11010010010 : QS 45 g45 [0, 1, 0, 0, 1, 0, 0, 1, 0, 1, 1] := qS rfl
theorem q45_110100100100 : QR 45 g45 [0, 0, 1, 0, 0, 1, 0, 0, 1, 0, 1, 1] 1 := qR rfl rfl rfl rfl
theorem q45_110100100101 : QT 45 g45 [1, 0, 1, 0, 0, 1, 0, 0, 1, 0, 1, 1] := qT rfl
theorem q45_11010010011 : QK 45 g45 [1, 1, 0, 0, 1, 0, 0, 1, 0, 1, 1] := qK rfl
theorem q45_11010011 : QR 45 g45 [1, 1, 0, 0, 1, 0, 1, 1] 3 := qR rfl rfl rfl rfl
theorem q45_111 : QS 45 g45 [1, 1, 1] := qS rfl
theorem q45_1110 : QR 45 g45 [0, 1, 1, 1] 1 := qR rfl rfl rfl rfl
theorem q45_1111 : QT 45 g45 [1, 1, 1, 1] := qT rfl
theorem q46_ : QS 46 g46 [] := qS rfl
theorem q46_0 : QR 46 g46 [0] 1 := qR rfl rfl rfl rfl
theorem q46_1 : QS 46 g46 [1] := qS rfl
theorem q46_10 : QS 46 g46 [0, 1] := qS rfl
theorem q46_100 : QR 46 g46 [0, 0, 1] 5 := qR rfl rfl rfl rfl
theorem q46_101 : QC 46 g46 [1, 0, 1] 10 := qC rfl
theorem q46_1010 : QS 46 g46 [0, 1, 0, 1] := qS rfl
theorem q46_10100 : QR 46 g46 [0, 0, 1, 0, 1] 1 := qR rfl rfl rfl rfl
theorem q46_10101 : QT 46 g46 [1, 0, 1, 0, 1] := qT rfl
theorem q46_1011 : QK 46 g46 [1, 1, 0, 1] := qK rfl
theorem q46_11 : QS 46 g46 [1, 1] := qS rfl
theorem q46_110 : QS 46 g46 [0, 1, 1] := qS rfl
theorem q46_1100 : QR 46 g46 [0, 0, 1, 1] 1 := qR rfl rfl rfl rfl
theorem q46_1101 : QB 46 g46 [1, 0, 1, 1] 0 := qB rfl
theorem q46_11010 : QL 46 g46 [0, 1, 0, 1, 1] 4 := qL rfl rfl
theorem q46_110100 : QS 46 g46 [0, 0, 1, 0, 1, 1] := qS rfl
theorem q46_1101000 : QS 46 g46 [0, 0, 0, 1, 0, 1, 1] := qS rfl
theorem q46_11010000 : QR 46 g46 [0, 0, 0, 0, 1, 0, 1, 1] 4 := qR rfl rfl rfl rfl
theorem q46_11010001 : QC 46 g46 [1, 0, 0, 0, 1, 0, 1, 1] 14 := qC rfl
theorem q46_110100010 : QK 46 g46 [0, 1, 0, 0, 0, 1, 0, 1, 1] := qK rfl
theorem q46_110100011 : QX 46 g46 [1, 1, 0, 0, 0, 1, 0, 1, 1] 0 := qX rfl
theorem q46_1101001 : QS 46 g46 [1, 0, 0, 1, 0, 1, 1] := qS rfl
theorem q46_11010010 : QB 46 g46 [0, 1, 0, 0, 1, 0, 1, 1] 1 := qB rfl
theorem q46_110100100 : QS 46 g46 [0, 0, 1, 0, 0, 1, 0, 1, 1] := qS rfl
theorem q46_1101001000 : QD 46 g46 [0, 0, 0, 1, 0, 0, 1, 0, 1, 1] 10 := qD rfl rfl rfl rfl
theorem q46_1101001001 : QC 46 g46 [1, 0, 0, 1, 0, 0, 1, 0, 1, 1] 26 := qC rfl
theorem q46_11010010010 : QS 46 g46 [0, 1, 0, 0, 1, 0, 0, 1, 0, 1, 1] := qS rfl
theorem q46_110100100100 : QR 46 g46 [0, 0, 1, 0, 0, 1, 0, 0, 1, 0, 1, 1] 1 := qR rfl rfl rfl rfl
theorem q46_110100100101 : QT 46 g46 [1, 0, 1, 0, 0, 1, 0, 0, 1, 0, 1, 1] := qT rfl
theorem q46_11010010011 : QK 46 g46 [1, 1, 0, 0, 1, 0, 0, 1, 0, 1, 1] := qK rfl
theorem q46_11010011 : QR 46 g46 [1, 1, 0, 0, 1, 0, 1, 1] 3 := qR rfl rfl rfl rfl
theorem q46_111 : QS 46 g46 [1, 1, 1] := qS rfl
theorem q46_1110 : QR 46 g46 [0, 1, 1, 1] 1 := qR rfl rfl rfl rfl
theorem q46_1111 : QT 46 g46 [1, 1, 1, 1] := qT rfl
theorem q47_ : QS 47 g47 [] := qS rfl
theorem q47_0 : QR 47 g47 [0] 1 := qR rfl rfl rfl rfl
theorem q47_1 : QS 47 g47 [1] := qS rfl
theorem q47_10 : QS 47 g47 [0, 1] := qS rfl
theorem q47_100 : QR 47 g47 [0, 0, 1] 5 := qR rfl rfl rfl rfl
theorem q47_101 : QC 47 g47 [1, 0, 1] 10 := qC rfl
theorem q47_1010 : QS 47 g47 [0, 1, 0, 1] := qS rfl
theorem q47_10100 : QR 47 g47 [0, 0, 1, 0, 1] 1 := qR rfl rfl rfl rfl
theorem q47_10101 : QT 47 g47 [1, 0, 1, 0, 1] := qT rfl
theorem q47_1011 : QK 47 g47 [1, 1, 0, 1] := qK rfl
theorem q47_11 : QS 47 g47 [1, 1] := qS rfl
theorem q47_110 : QS 47 g47 [0, 1, 1] := qS rfl
theorem q47_1100 : QR 47 g47 [0, 0, 1, 1] 1 := qR rfl rfl rfl rfl
theorem q47_1101 : QB 47 g47 [1, 0, 1, 1] 0 := qB rfl
theorem q47_11010 : QL 47 g47 [0, 1, 0, 1, 1] 4 := qL rfl rfl
theorem q47_110100 : QS 47 g47 [0, 0, 1, 0, 1, 1] := qS rfl
theorem q47_1101000 : QS 47 g47 [0, 0, 0, 1, 0, 1, 1] := qS rfl
theorem q47_11010000 : QR 47 g47 [0, 0, 0, 0, 1, 0, 1, 1] 4 := qR rfl rfl rfl rfl
theorem q47_11010001 : QC 47 g47 [1, 0, 0, 0, 1, 0, 1, 1] 14 := qC rfl
theorem q47_110100010 : QK 47 g47 [0, 1, 0, 0, 0, 1, 0, 1, 1] := qK rfl
theorem q47_110100011 : QX 47 g47 [1, 1, 0, 0, 0, 1, 0, 1, 1] 0 := qX rfl
theorem q47_1101001 : QS 47 g47 [1, 0, 0, 1, 0, 1, 1] := qS rfl
theorem q47_11010010 : QB 47 g47 [0, 1, 0, 0, 1, 0, 1, 1] 1 := qB rfl
theorem q47_110100100 : QS 47 g47 [0, 0, 1, 0, 0, 1, 0, 1, 1] := qS rfl
theorem q47_1101001000 : QD 47 g47 [0, 0, 0, 1, 0, 0, 1, 0, 1, 1] 10 := qD rfl rfl rfl rfl
theorem q47_1101001001 : QC 47 g47 [1, 0, 0, 1, 0, 0, 1, 0, 1, 1] 26 := qC rfl
theorem q47_11010010010 : QS 47 g47 [0, 1, 0, 0, 1, 0, 0, 1, 0, 1, 1] := qS rfl
theorem q47_110100100100 : QR 47 g47 [0, 0, 1, 0, 0, 1, 0, 0, 1, 0, 1, 1] 1 := qR rfl rfl rfl rfl
theorem q47_110100100101 : QT 47 g47 [1, 0, 1, 0, 0, 1, 0, 0, 1, 0, 1, 1] := qT rfl
theorem q47_11010010011 : QK 47 g47 [1, 1, 0, 0, 1, 0, 0, 1, 0, 1, 1] := qK rfl
theorem q47_11010011 : QR 47 g47 [1, 1, 0, 0, 1, 0, 1, 1] 3 := qR rfl rfl rfl rfl
theorem q47_111 : QS 47 g47 [1, 1, 1] := qS rfl
theorem q47_1110 : QR 47 g47 [0, 1, 1, 1] 1 := qR rfl rfl rfl rfl
theorem q47_1111 : QT 47 g47 [1, 1, 1, 1] := qT rfl
theorem q48_ : QS 48 g48 [] := qS rfl
theorem q48_0 : QR 48 g48 [0] 3 := qR rfl rfl rfl rfl
theorem q48_1 : QS 48 g48 [1] := qS rfl
theorem q48_10 : QS 48 g48 [0, 1] := qS rfl
theorem q48_100 : QR 48 g48 [0, 0, 1] 6 := qR rfl rfl rfl rfl
theorem q48_101 : QC 48 g48 [1, 0, 1] 10 := qC rfl
theorem q48_1010 : QS 48 g48 [0, 1, 0, 1] := qS rfl
theorem q48_10100 : QR 48 g48 [0, 0, 1, 0, 1] 1 := qR rfl rfl rfl rfl
theorem q48_10101 : QT 48 g48 [1, 0, 1, 0, 1] := qT rfl
theorem q48_1011 : QK 48 g48 [1, 1, 0, 1] := qK rfl
theorem q48_11 : QS 48 g48 [1, 1] := qS rfl
theorem q48_110 : QS 48 g48 [0, 1, 1] := qS rfl
theorem q48_1100 : QR 48 g48 [0, 0, 1, 1] 5 := qR rfl rfl rfl rfl
theorem q48_1101 : QC 48 g48 [1, 0, 1, 1] 15 := qC rfl
theorem q48_11010 : QS 48 g48 [0, 1, 0, 1, 1] := qS rfl
theorem q48_110100 : QR 48 g48 [0, 0, 1, 0, 1, 1] 1 := qR rfl rfl rfl rfl
theorem q48_110101 : QT 48 g48 [1, 0, 1, 0, 1, 1] := qT rfl
theorem q48_11011 : QK 48 g48 [1, 1, 0, 1, 1] := qK rfl
theorem q48_111 : QS 48 g48 [1, 1, 1] := qS rfl
theorem q48_1110 : QS 48 g48 [0, 1, 1, 1] := qS rfl
theorem q48_11100 : QR 48 g48 [0, 0, 1, 1, 1] 5 := qR rfl rfl rfl rfl
theorem q48_11101 : QC 48 g48 [1, 0, 1, 1, 1] 20 := qC rfl
theorem q48_111010 : QS 48 g48 [0, 1, 0, 1, 1, 1] := qS rfl
theorem q48_1110100 : QR 48 g48 [0, 0, 1, 0, 1, 1, 1] 1 := qR rfl rfl rfl rfl
theorem q48_1110101 : QT 48 g48 [1, 0, 1, 0, 1, 1, 1] := qT rfl
theorem q48_111011 : QK 48 g48 [1, 1, 0, 1, 1, 1] := qK rfl
theorem q48_1111 : QS 48 g48 [1, 1, 1, 1] := qS rfl
theorem q48_11110 : QS 48 g48 [0, 1, 1, 1, 1] := qS rfl
theorem q48_111100 : QR 48 g48 [0, 0, 1, 1, 1, 1] 5 := qR rfl rfl rfl rfl
theorem q48_111101 : QC 48 g48 [1, 0, 1, 1, 1, 1] 25 := qC rfl
theorem q48_1111010 : QS 48 g48 [0, 1, 0, 1, 1, 1, 1] := qS rfl
theorem q48_11110100 : QR 48 g48 [0, 0, 1, 0, 1, 1, 1, 1] 1 := qR rfl rfl rfl rfl
theorem q48_11110101 : QT 48 g48 [1, 0, 1, 0, 1, 1, 1, 1] := qT rfl
theorem q48_1111011 : QK 48 g48 [1, 1, 0, 1, 1, 1, 1] := qK rfl
theorem q48_11111 : QS 48 g48 [1, 1, 1, 1, 1] := qS rfl
theorem q48_111110 : QS 48 g48 [0, 1, 1, 1, 1, 1] := qS rfl
theorem q48_1111100 : QR 48 g48 [0, 0, 1, 1, 1, 1, 1] 6 := qR rfl rfl rfl rfl
theorem q48_1111101 : QC 48 g48 [1, 0, 1, 1, 1, 1, 1] 31 := qC rfl
theorem q48_11111010 : QS 48 g48 [0, 1, 0, 1, 1, 1, 1, 1] := qS rfl
theorem q48_111110100 : QR 48 g48 [0, 0, 1, 0, 1, 1, 1, 1, 1] 1 := qR rfl rfl rfl rfl
theorem q48_111110101 : QT 48 g48 [1, 0, 1, 0, 1, 1, 1, 1, 1] := qT rfl
theorem q48_11111011 : QK 48 g48 [1, 1, 0, 1, 1, 1, 1, 1] := qK rfl
theorem q48_111111 : QS 48 g48 [1, 1, 1, 1, 1, 1] := qS rfl
theorem q48_1111110 : QR 48 g48 [0, 1, 1, 1, 1, 1, 1] 1 := qR rfl rfl rfl rfl
theorem q48_1111111 : QT 48 g48 [1, 1, 1, 1, 1, 1, 1] := qT rfl
theorem q49_ : QS 49 g49 [] := qS rfl
theorem q49_0 : QR 49 g49 [0] 1 := qR rfl rfl rfl rfl
theorem q49_1 : QS 49 g49 [1] := qS rfl
theorem q49_10 : QS 49 g49 [0, 1] := qS rfl
theorem q49_100 : QR 49 g49 [0, 0, 1] 1 := qR rfl rfl rfl rfl
theorem q49_101 : QB 49 g49 [1, 0, 1] 0 := qB rfl
theorem q49_1010 : QL 49 g49 [0, 1, 0, 1] 2 := qL rfl rfl
theorem q49_10100 : QS 49 g49 [0, 0, 1, 0, 1] := qS rfl
theorem q49_101000 : QS 49 g49 [0, 0, 0, 1, 0, 1] := qS rfl
theorem q49_1010000 : QR 49 g49 [0, 0, 0, 0, 1, 0, 1] 4 := qR rfl rfl rfl rfl
theorem q49_1010001 : QC 49 g49 [1, 0, 0, 0, 1, 0, 1] 9 := qC rfl
theorem q49_10100010 : QK 49 g49 [0, 1, 0, 0, 0, 1, 0, 1] := qK rfl
theorem q49_10100011 : QX 49 g49 [1, 1, 0, 0, 0, 1, 0, 1] 0 := qX rfl
theorem q49_101001 : QS 49 g49 [1, 0, 0, 1, 0, 1] := qS rfl
theorem q49_1010010 : QB 49 g49 [0, 1, 0, 0, 1, 0, 1] 1 := qB rfl
theorem q49_10100100 : QS 49 g49 [0, 0, 1, 0, 0, 1, 0, 1] := qS rfl
theorem q49_101001000 : QR 49 g49 [0, 0, 0, 1, 0, 0, 1, 0, 1] 6 := qR rfl rfl rfl rfl
theorem q49_101001001 : QS 49 g49 [1, 0, 0, 1, 0, 0, 1, 0, 1] := qS rfl
theorem q49_1010010010 : QR 49 g49 [0, 1, 0, 0, 1, 0, 0, 1, 0, 1] 3 := qR rfl rfl rfl rfl
theorem q49_1010010011 : QS 49 g49 [1, 1, 0, 0, 1, 0, 0, 1, 0, 1] := qS rfl
theorem q49_10100100110 : QR 49 g49 [0, 1, 1, 0, 0, 1, 0, 0, 1, 0, 1] 6 := qR rfl rfl rfl rfl
theorem q49_10100100111 : QR 49 g49 [1, 1, 1, 0, 0, 1, 0, 0, 1, 0, 1] 3 := qR rfl rfl rfl rfl
theorem q49_1010011 : QR 49 g49 [1, 1, 0, 0, 1, 0, 1] 3 := qR rfl rfl rfl rfl
theorem q49_11 : QS 49 g49 [1, 1] := qS rfl
theorem q49_110 : QR 49 g49 [0, 1, 1] 2 := qR rfl rfl rfl rfl
theorem q49_111 : QT 49 g49 [1, 1, 1] := qT rfl
theorem q50_ : QS 50 g50 [] := qS rfl
theorem q50_0 : QR 50 g50 [0] 1 := qR rfl rfl rfl rfl
theorem q50_1 : QS 50 g50 [1] := qS rfl
theorem q50_10 : QS 50 g50 [0, 1] := qS rfl
theorem q50_100 : QR 50 g50 [0, 0, 1] 2 := qR rfl rfl rfl rfl
theorem q50_101 : QC 50 g50 [1, 0, 1] 5 := qC rfl
theorem q50_1010 : QS 50 g50 [0, 1, 0, 1] := qS rfl
theorem q50_10100 : QR 50 g50 [0, 0, 1, 0, 1] 1 := qR rfl rfl rfl rfl
theorem q50_10101 : QT 50 g50 [1, 0, 1, 0, 1] := qT rfl
theorem q50_1011 : QK 50 g50 [1, 1, 0, 1] := qK rfl
theorem q50_11 : QS 50 g50 [1, 1] := qS rfl
theorem q50_110 : QR 50 g50 [0, 1, 1] 1 := qR rfl rfl rfl rfl
theorem q50_111 : QS 50 g50 [1, 1, 1] := qS rfl
theorem q50_1110 : QB 50 g50 [0, 1, 1, 1] 0 := qB rfl
theorem q50_11100 : QL 50 g50 [0, 0, 1, 1, 1] 4 := qL rfl rfl
theorem q50_111000 : QS 50 g50 [0, 0, 0, 1, 1, 1] := qS rfl
theorem q50_1110000 : QS 50 g50 [0, 0, 0, 0, 1, 1, 1] := qS rfl
theorem q50_11100000 : QR 50 g50 [0, 0, 0, 0, 0, 1, 1, 1] 2 := qR rfl rfl rfl rfl
theorem q50_11100001 : QC 50 g50 [1, 0, 0, 0, 0, 1, 1, 1] 7 := qC rfl
theorem q50_111000010 : QK 50 g50 [0, 1, 0, 0, 0, 0, 1, 1, 1] := qK rfl
theorem q50_111000011 : QX 50 g50 [1, 1, 0, 0, 0, 0, 1, 1, 1] 0 := qX rfl
theorem q50_1110001 : QB 50 g50 [1, 0, 0, 0, 1, 1, 1] 1 := qB rfl
theorem q50_11100010 : QS 50 g50 [0, 1, 0, 0, 0, 1, 1, 1] := qS rfl
theorem q50_111000100 : QR 50 g50 [0, 0, 1, 0, 0, 0, 1, 1, 1] 9 := qR rfl rfl rfl rfl
theorem q50_111000101 : QR 50 g50 [1, 0, 1, 0, 0, 0, 1, 1, 1] 3 := qR rfl rfl rfl rfl
theorem q50_1111 : QS 50 g50 [1, 1, 1, 1] := qS rfl
theorem q50_11110 : QR 50 g50 [0, 1, 1, 1, 1] 3 := qR rfl rfl rfl rfl
theorem q50_11111 : QT 50 g50 [1, 1, 1, 1, 1] := qT rfl
theorem q51_ : QS 51 g51 [] := qS rfl
theorem q51_0 : QR 51 g51 [0] 1 := qR rfl rfl rfl rfl
theorem q51_1 : QS 51 g51 [1] := qS rfl
theorem q51_10 : QS 51 g51 [0, 1] := qS rfl
theorem q51_100 : QR 51 g51 [0, 0, 1] 1 := qR rfl rfl rfl rfl
theorem q51_101 : QB 51 g51 [1, 0, 1] 0 := qB rfl
theorem q51_1010 : QL 51 g51 [0, 1, 0, 1] 2 := qL rfl rfl
theorem q51_10100 : QS 51 g51 [0, 0, 1, 0, 1] := qS rfl
theorem q51_101000 : QS 51 g51 [0, 0, 0, 1, 0, 1] := qS rfl
theorem q51_1010000 : QR 51 g51 [0, 0, 0, 0, 1, 0, 1] 4 := qR rfl rfl rfl rfl
theorem q51_1010001 : QC 51 g51 [1, 0, 0, 0, 1, 0, 1] 9 := qC rfl
theorem q51_10100010 : QK 51 g51 [0, 1, 0, 0, 0, 1, 0, 1] := qK rfl
theorem q51_10100011 : QX 51 g51 [1, 1, 0, 0, 0, 1, 0, 1] 0 := qX rfl
theorem q51_101001 : QS 51 g51 [1, 0, 0, 1, 0, 1] := qS rfl
theorem q51_1010010 : QB 51 g51 [0, 1, 0, 0, 1, 0, 1] 1 := qB rfl
theorem q51_10100100 : QS 51 g51 [0, 0, 1, 0, 0, 1, 0, 1] := qS rfl
theorem q51_101001000 : QR 51 g51 [0, 0, 0, 1, 0, 0, 1, 0, 1] 7 := qR rfl rfl rfl rfl
theorem q51_101001001 : QS 51 g51 [1, 0, 0, 1, 0, 0, 1, 0, 1] := qS rfl
theorem q51_1010010010 : QR 51 g51 [0, 1, 0, 0, 1, 0, 0, 1, 0, 1] 3 := qR rfl rfl rfl rfl
theorem q51_1010010011 : QS 51 g51 [1, 1, 0, 0, 1, 0, 0, 1, 0, 1] := qS rfl
theorem q51_10100100110 : QR 51 g51 [0, 1, 1, 0, 0, 1, 0, 0, 1, 0, 1] 7 := qR rfl rfl rfl rfl
theorem q51_10100100111 : QR 51 g51 [1, 1, 1, 0, 0, 1, 0, 0, 1, 0, 1] 3 := qR rfl rfl rfl rfl
theorem q51_1010011 : QR 51 g51 [1, 1, 0, 0, 1, 0, 1] 3 := qR rfl rfl rfl rfl
theorem q51_11 : QS 51 g51 [1, 1] := qS rfl
theorem q51_110 : QR 51 g51 [0, 1, 1] 2 := qR rfl rfl rfl rfl
theorem q51_111 : QT 51 g51 [1, 1, 1] := qT rfl
theorem q52_ : QS 52 g52 [] := qS rfl
theorem q52_0 : QR 52 g52 [0] 1 := qR rfl rfl rfl rfl
theorem q52_1 : QS 52 g52 [1] := qS rfl
theorem q52_10 : QS 52 g52 [0, 1] := qS rfl
theorem q52_100 : QR 52 g52 [0, 0, 1] 1 := qR rfl rfl rfl rfl
theorem q52_101 : QB 52 g52 [1, 0, 1] 0 := qB rfl
theorem q52_1010 : QL 52 g52 [0, 1, 0, 1] 2 := qL rfl rfl
theorem q52_10100 : QS 52 g52 [0, 0, 1, 0, 1] := qS rfl
theorem q52_101000 : QS 52 g52 [0, 0, 0, 1, 0, 1] := qS rfl
theorem q52_1010000 : QR 52 g52 [0, 0, 0, 0, 1, 0, 1] 4 := qR rfl rfl rfl rfl
theorem q52_1010001 : QC 52 g52 [1, 0, 0, 0, 1, 0, 1] 9 := qC rfl
theorem q52_10100010 : QK 52 g52 [0, 1, 0, 0, 0, 1, 0, 1] := qK rfl
theorem q52_10100011 : QX 52 g52 [1, 1, 0, 0, 0, 1, 0, 1] 0 := qX rfl
theorem q52_101001 : QS 52 g52 [1, 0, 0, 1, 0, 1] := qS rfl
theorem q52_1010010 : QB 52 g52 [0, 1, 0, 0, 1, 0, 1] 1 := qB rfl
theorem q52_10100100 : QS 52 g52 [0, 0, 1, 0, 0, 1, 0, 1] := qS rfl
theorem q52_101001000 : QR 52 g52 [0, 0, 0, 1, 0, 0, 1, 0, 1] 7 := qR rfl rfl rfl rfl
theorem q52_101001001 : QS 52 g52 [1, 0, 0, 1, 0, 0, 1, 0, 1] := qS rfl
theorem q52_1010010010 : QR 52 g52 [0, 1, 0, 0, 1, 0, 0, 1, 0, 1] 3 := qR rfl rfl rfl rfl
theorem q52_1010010011 : QS 52 g52 [1, 1, 0, 0, 1, 0, 0, 1, 0, 1] := qS rfl
theorem q52_10100100110 : QR 52 g52 [0, 1, 1, 0, 0, 1, 0, 0, 1, 0, 1] 7 := qR rfl rfl rfl rfl
theorem q52_10100100111 : QS 52 g52 [1, 1, 1, 0, 0, 1, 0, 0, 1, 0, 1] := qS rfl
theorem q52_101001001110 : QR 52 g52 [0, 1, 1, 1, 0, 0, 1, 0, 0, 1, 0, 1] 3 := qR rfl rfl rfl rfl
theorem q52_101001001111 : QS 52 g52 [1, 1, 1, 1, 0, 0, 1, 0, 0, 1, 0, 1] := qS rfl
theorem q52_1010010011110 : QR 52 g52 [0, 1, 1, 1, 1, 0, 0, 1, 0, 0, 1, 0, 1] 7 := qR rfl rfl rfl rfl
theorem q52_1010010011111 : QR 52 g52 [1, 1, 1, 1, 1, 0, 0, 1, 0, 0, 1, 0, 1] 3 := qR rfl rfl rfl rfl
theorem q52_1010011 : QR 52 g52 [1, 1, 0, 0, 1, 0, 1] 3 := qR rfl rfl rfl rfl
theorem q52_11 : QS 52 g52 [1, 1] := qS rfl
theorem q52_110 : QR 52 g52 [0, 1, 1] 2 := qR rfl rfl rfl rfl
theorem q52_111 : QT 52 g52 [1, 1, 1] := qT rfl
theorem q53_ : QS 53 g53 [] := qS rfl
theorem q53_0 : QR 53 g53 [0] 1 := qR rfl rfl rfl rfl
theorem q53_1 : QS 53 g53 [1] := qS rfl
theorem q53_10 : QS 53 g53 [0, 1] := qS rfl
theorem q53_100 : QR 53 g53 [0, 0, 1] 1 := qR rfl rfl rfl rfl
theorem q53_101 : QB 53 g53 [1, 0, 1] 0 := qB rfl
theorem q53_1010 : QL 53 g53 [0, 1, 0, 1] 2 := qL rfl rfl
theorem q53_10100 : QS 53 g53 [0, 0, 1, 0, 1] := qS rfl
theorem q53_101000 : QS 53 g53 [0, 0, 0, 1, 0, 1] := qS rfl
theorem q53_1010000 : QR 53 g53 [0, 0, 0, 0, 1, 0, 1] 4 := qR rfl rfl rfl rfl
theorem q53_1010001 : QC 53 g53 [1, 0, 0, 0, 1, 0, 1] 9 := qC rfl
theorem q53_10100010 : QK 53 g53 [0, 1, 0, 0, 0, 1, 0, 1] := qK rfl
theorem q53_10100011 : QX 53 g53 [1, 1, 0, 0, 0, 1, 0, 1] 0 := qX rfl
theorem q53_101001 : QS 53 g53 [1, 0, 0, 1, 0, 1] := qS rfl
theorem q53_1010010 : QB 53 g53 [0, 1, 0, 0, 1, 0, 1] 1 := qB rfl
theorem q53_10100100 : QS 53 g53 [0, 0, 1, 0, 0, 1, 0, 1] := qS rfl
theorem q53_101001000 : QS 53 g53 [0, 0, 0, 1, 0, 0, 1, 0, 1] := qS rfl
theorem q53_1010010000 : QR 53 g53 [0, 0, 0, 0, 1, 0, 0, 1, 0, 1] 7 := qR rfl rfl rfl rfl
theorem q53_1010010001 : QC 53 g53 [1, 0, 0, 0, 1, 0, 0, 1, 0, 1] 18 := qC rfl
theorem q53_10100100010 : QS 53 g53 [0, 1, 0, 0, 0, 1, 0, 0, 1, 0, 1] := qS rfl
theorem q53_101001000100 : QR 53 g53 [0, 0, 1, 0, 0, 0, 1, 0, 0, 1, 0, 1] 1 := qR rfl rfl rfl rfl
theorem q53_101001000101 : QT 53 g53 [1, 0, 1, 0, 0, 0, 1, 0, 0, 1, 0, 1] := qT rfl
theorem q53_10100100011 : QK 53 g53 [1, 1, 0, 0, 0, 1, 0, 0, 1, 0, 1] := qK rfl
theorem q53_101001001 : QS 53 g53 [1, 0, 0, 1, 0, 0, 1, 0, 1] := qS rfl
theorem q53_1010010010 : QR 53 g53 [0, 1, 0, 0, 1, 0, 0, 1, 0, 1] 3 := qR rfl rfl rfl rfl
theorem q53_1010010011 : QS 53 g53 [1, 1, 0, 0, 1, 0, 0, 1, 0, 1] := qS rfl
theorem q53_10100100110 : QS 53 g53 [0, 1, 1, 0, 0, 1, 0, 0, 1, 0, 1] := qS rfl
theorem q53_101001001100 : QR 53 g53 [0, 0, 1, 1, 0, 0, 1, 0, 0, 1, 0, 1] 7 := qR rfl rfl rfl rfl
theorem q53_101001001101 : QC 53 g53 [1, 0, 1, 1, 0, 0, 1, 0, 0, 1, 0, 1] 27 := qC rfl
theorem q53_1010010011010 : QS 53 g53 [0, 1, 0, 1, 1, 0, 0, 1, 0, 0, 1, 0, 1] := qS rfl
theorem q53_10100100110100 : QR 53 g53 [0, 0, 1, 0, 1, 1, 0, 0, 1, 0, 0, 1, 0, 1] 1 := qR rfl rfl rfl rfl
theorem q53_10100100110101 : QT 53 g53 [1, 0, 1, 0, 1, 1, 0, 0, 1, 0, 0, 1, 0, 1] := qT rfl
theorem q53_1010010011011 : QK 53 g53 [1, 1, 0, 1, 1, 0, 0, 1, 0, 0, 1, 0, 1] := qK rfl
theorem q53_10100100111 : QR 53 g53 [1, 1, 1, 0, 0, 1, 0, 0, 1, 0, 1] 3 := qR rfl rfl rfl rfl
theorem q53_1010011 : QR 53 g53 [1, 1, 0, 0, 1, 0, 1] 3 := qR rfl rfl rfl rfl
theorem q53_11 : QS 53 g53 [1, 1] := qS rfl
theorem q53_110 : QR 53 g53 [0, 1, 1] 2 := qR rfl rfl rfl rfl
theorem q53_111 : QT 53 g53 [1, 1, 1] := qT rfl
theorem q54_ : QS 54 g54 [] := qS rfl
theorem q54_0 : QR 54 g54 [0] 1 := qR rfl rfl rfl rfl
theorem q54_1 : QS 54 g54 [1] := qS rfl
theorem q54_10 : QS 54 g54 [0, 1] := qS rfl
theorem q54_100 : QR 54 g54 [0, 0, 1] 1 := qR rfl rfl rfl rfl
theorem q54_101 : QB 54 g54 [1, 0, 1] 0 := qB rfl
theorem q54_1010 : QL 54 g54 [0, 1, 0, 1] 2 := qL rfl rfl
theorem q54_10100 : QS 54 g54 [0, 0, 1, 0, 1] := qS rfl
theorem q54_101000 : QS 54 g54 [0, 0, 0, 1, 0, 1] := qS rfl
theorem q54_1010000 : QR 54 g54 [0, 0, 0, 0, 1, 0, 1] 4 := qR rfl rfl rfl rfl
theorem q54_1010001 : QC 54 g54 [1, 0, 0, 0, 1, 0, 1] 9 := qC rfl
theorem q54_10100010 : QK 54 g54 [0, 1, 0, 0, 0, 1, 0, 1] := qK rfl
theorem q54_10100011 : QX 54 g54 [1, 1, 0, 0, 0, 1, 0, 1] 0 := qX rfl
theorem q54_101001 : QS 54 g54 [1, 0, 0, 1, 0, 1] := qS rfl
theorem q54_1010010 : QB 54 g54 [0, 1, 0, 0, 1, 0, 1] 1 := qB rfl
theorem q54_10100100 : QS 54 g54 [0, 0, 1, 0, 0, 1, 0, 1] := qS rfl
theorem q54_101001000 : QS 54 g54 [0, 0, 0, 1, 0, 0, 1, 0, 1] := qS rfl
theorem q54_1010010000 : QD 54 g54 [0, 0, 0, 0, 1, 0, 0, 1, 0, 1] 8 := qD rfl rfl rfl rfl
theorem q54_1010010001 : QC 54 g54 [1, 0, 0, 0, 1, 0, 0, 1, 0, 1] 19 := qC rfl
theorem q54_10100100010 : QS 54 g54 [0, 1, 0, 0, 0, 1, 0, 0, 1, 0, 1] := qS rfl
theorem q54_101001000100 : QR 54 g54 [0, 0, 1, 0, 0, 0, 1, 0, 0, 1, 0, 1] 1 := qR rfl rfl rfl rfl
theorem q54_101001000101 : QT 54 g54 [1, 0, 1, 0, 0, 0, 1, 0, 0, 1, 0, 1] := qT rfl
theorem q54_10100100011 : QK 54 g54 [1, 1, 0, 0, 0, 1, 0, 0, 1, 0, 1] := qK rfl
theorem q54_101001001 : QS 54 g54 [1, 0, 0, 1, 0, 0, 1, 0, 1] := qS rfl
theorem q54_1010010010 : QR 54 g54 [0, 1, 0, 0, 1, 0, 0, 1, 0, 1] 3 := qR rfl rfl rfl rfl
theorem q54_1010010011 : QS 54 g54 [1, 1, 0, 0, 1, 0, 0, 1, 0, 1] := qS rfl
theorem q54_10100100110 : QS 54 g54 [0, 1, 1, 0, 0, 1, 0, 0, 1, 0, 1] := qS rfl
theorem q54_101001001100 : QD 54 g54 [0, 0, 1, 1, 0, 0, 1, 0, 0, 1, 0, 1] 8 := qD rfl rfl rfl rfl
theorem q54_101001001101 : QC 54 g54 [1, 0, 1, 1, 0, 0, 1, 0, 0, 1, 0, 1] 29 := qC rfl
theorem q54_1010010011010 : QS 54 g54 [0, 1, 0, 1, 1, 0, 0, 1, 0, 0, 1, 0, 1] := qS rfl
theorem q54_10100100110100 : QR 54 g54 [0, 0, 1, 0, 1, 1, 0, 0, 1, 0, 0, 1, 0, 1] 1 := qR rfl rfl rfl rfl
theorem q54_10100100110101 : QT 54 g54 [1, 0, 1, 0, 1, 1, 0, 0, 1, 0, 0, 1, 0, 1] := qT rfl
theorem q54_1010010011011 : QK 54 g54 [1, 1, 0, 1, 1, 0, 0, 1, 0, 0, 1, 0, 1] := qK rfl
theorem q54_10100100111 : QR 54 g54 [1, 1, 1, 0, 0, 1, 0, 0, 1, 0, 1] 3 := qR rfl rfl rfl rfl
theorem q54_1010011 : QR 54 g54 [1, 1, 0, 0, 1, 0, 1] 3 := qR rfl rfl rfl rfl
theorem q54_11 : QS 54 g54 [1, 1] := qS rfl
theorem q54_110 : QR 54 g54 [0, 1, 1] 2 := qR rfl rfl rfl rfl
theorem q54_111 : QT 54 g54 [1, 1, 1] := qT rfl
theorem q55_ : QS 55 g55 [] := qS rfl
theorem q55_0 : QR 55 g55 [0] 1 := qR rfl rfl rfl rfl
theorem q55_1 : QS 55 g55 [1] := qS rfl
theorem q55_10 : QS 55 g55 [0, 1] := qS rfl
theorem q55_100 : QR 55 g55 [0, 0, 1] 1 := qR rfl rfl rfl rfl
theorem q55_101 : QB 55 g55 [1, 0, 1] 0 := qB rfl
theorem q55_1010 : QL 55 g55 [0, 1, 0, 1] 2 := qL rfl rfl
theorem q55_10100 : QS 55 g55 [0, 0, 1, 0, 1] := qS rfl
theorem q55_101000 : QS 55 g55 [0, 0, 0, 1, 0, 1] := qS rfl
theorem q55_1010000 : QR 55 g55 [0, 0, 0, 0, 1, 0, 1] 4 := qR rfl rfl rfl rfl
theorem q55_1010001 : QC 55 g55 [1, 0, 0, 0, 1, 0, 1] 9 := qC rfl
theorem q55_10100010 : QK 55 g55 [0, 1, 0, 0, 0, 1, 0, 1] := qK rfl
theorem q55_10100011 : QX 55 g55 [1, 1, 0, 0, 0, 1, 0, 1] 0 := qX rfl
theorem q55_101001 : QS 55 g55 [1, 0, 0, 1, 0, 1] := qS rfl
theorem q55_1010010 : QB 55 g55 [0, 1, 0, 0, 1, 0, 1] 1 := qB rfl
theorem q55_10100100 : QS 55 g55 [0, 0, 1, 0, 0, 1, 0, 1] := qS rfl
theorem q55_101001000 : QS 55 g55 [0, 0, 0, 1, 0, 0, 1, 0, 1] := qS rfl
theorem q55_1010010000 : QD 55 g55 [0, 0, 0, 0, 1, 0, 0, 1, 0, 1] 8 := qD rfl rfl rfl rfl
theorem q55_1010010001 : QC 55 g55 [1, 0, 0, 0, 1, 0, 0, 1, 0, 1] 19 := qC rfl
theorem q55_10100100010 : QS 55 g55 [0, 1, 0, 0, 0, 1, 0, 0, 1, 0, 1] := qS rfl
theorem q55_101001000100 : QR 55 g55 [0, 0, 1, 0, 0, 0, 1, 0, 0, 1, 0, 1] 1 := qR rfl rfl rfl rfl
theorem q55_101001000101 : QT 55 g55 [1, 0, 1, 0, 0, 0, 1, 0, 0, 1, 0, 1] := qT rfl
theorem q55_10100100011 : QK 55 g55 [1, 1, 0, 0, 0, 1, 0, 0, 1, 0, 1] := qK rfl
theorem q55_101001001 : QS 55 g55 [1, 0, 0, 1, 0, 0, 1, 0, 1] := qS rfl
theorem q55_1010010010 : QR 55 g55 [0, 1, 0, 0, 1, 0, 0, 1, 0, 1] 3 := qR rfl rfl rfl rfl
theorem q55_1010010011 : QS 55 g55 [1, 1, 0, 0, 1, 0, 0, 1, 0, 1] := qS rfl
theorem q55_10100100110 : QS 55 g55 [0, 1, 1, 0, 0, 1, 0, 0, 1, 0, 1] := qS rfl
theorem q55_101001001100 : QD 55 g55 [0, 0, 1, 1, 0, 0, 1, 0, 0, 1, 0, 1] 8 := qD rfl rfl rfl rfl
theorem q55_101001001101 : QC 55 g55 [1, 0, 1, 1, 0, 0, 1, 0, 0, 1, 0, 1] 29 := qC rfl
theorem q55_1010010011010 : QS 55 g55 [0, 1, 0, 1, 1, 0, 0, 1, 0, 0, 1, 0, 1] := qS rfl
theorem q55_10100100110100 : QR 55 g55 [0, 0, 1, 0, 1, 1, 0, 0, 1, 0, 0, 1, 0, 1] 1 := qR rfl rfl rfl rfl
theorem q55_10100100110101 : QT 55 g55 [1, 0, 1, 0, 1, 1, 0, 0, 1, 0, 0, 1, 0, 1] := qT rfl
theorem q55_1010010011011 : QK 55 g55 [1, 1, 0, 1, 1, 0, 0, 1, 0, 0, 1, 0, 1] := qK rfl
theorem q55_10100100111 : QS 55 g55 [1, 1, 1, 0, 0, 1, 0, 0, 1, 0, 1] := qS rfl
theorem q55_101001001110 : QR 55 g55 [0, 1, 1, 1, 0, 0, 1, 0, 0, 1, 0, 1] 3 := qR rfl rfl rfl rfl
theorem q55_101001001111 : QS 55 g55 [1, 1, 1, 1, 0, 0, 1, 0, 0, 1, 0, 1] := qS rfl
theorem q55_1010010011110 : QS 55 g55 [0, 1, 1, 1, 1, 0, 0, 1, 0, 0, 1, 0, 1] := qS rfl
theorem q55_10100100111100 : QD 55 g55 [0, 0, 1, 1, 1, 1, 0, 0, 1, 0, 0, 1, 0, 1] 8 := qD rfl rfl rfl rfl
theorem q55_10100100111101 : QC 55 g55 [1, 0, 1, 1, 1, 1, 0, 0, 1, 0, 0, 1, 0, 1] 39 := qC rfl
theorem q55_101001001111010 : QS 55 g55 [0, 1, 0, 1, 1, 1, 1, 0, 0, 1, 0, 0, 1, 0, 1] := qS rfl
theorem q55_1010010011110100 : QR 55 g55 [0, 0, 1, 0, 1, 1, 1, 1, 0, 0, 1, 0, 0, 1, 0, 1] 1 := qR rfl rfl rfl rfl
theorem q55_1010010011110101 : QT 55 g55 [1, 0, 1, 0, 1, 1, 1, 1, 0, 0, 1, 0, 0, 1, 0, 1] := qT rfl
theorem q55_101001001111011 : QK 55 g55 [1, 1, 0, 1, 1, 1, 1, 0, 0, 1, 0, 0, 1, 0, 1] := qK rfl
theorem q55_1010010011111 : QR 55 g55 [1, 1, 1, 1, 1, 0, 0, 1, 0, 0, 1, 0, 1] 3 := qR rfl rfl rfl rfl
theorem q55_1010011 : QR 55 g55 [1, 1, 0, 0, 1, 0, 1] 3 := qR rfl rfl rfl rfl
theorem q55_11 : QS 55 g55 [1, 1] := qS rfl
theorem q55_110 : QR 55 g55 [0, 1, 1] 2 := qR rfl rfl rfl rfl
theorem q55_111 : QT 55 g55 [1, 1, 1] := qT rfl
theorem q56_ : QS 56 g56 [] := qS rfl
theorem q56_0 : QR 56 g56 [0] 2 := qR rfl rfl rfl rfl
theorem q56_1 : QS 56 g56 [1] := qS rfl
theorem q56_10 : QR 56 g56 [0, 1] 6 := qR rfl rfl rfl rfl
theorem q56_11 : QS 56 g56 [1, 1] := qS rfl
theorem q56_110 : QS 56 g56 [0, 1, 1] := qS rfl
theorem q56_1100 : QR 56 g56 [0, 0, 1, 1] 2 := qR rfl rfl rfl rfl
theorem q56_1101 : QC 56 g56 [1, 0, 1, 1] 11 := qC rfl
theorem q56_11010 : QS 56 g56 [0, 1, 0, 1, 1] := qS rfl
theorem q56_110100 : QR 56 g56 [0, 0, 1, 0, 1, 1] 1 := qR rfl rfl rfl rfl
theorem q56_110101 : QT 56 g56 [1, 0, 1, 0, 1, 1] := qT rfl
theorem q56_11011 : QK 56 g56 [1, 1, 0, 1, 1] := qK rfl
theorem q56_111 : QS 56 g56 [1, 1, 1] := qS rfl
theorem q56_1110 : QR 56 g56 [0, 1, 1, 1] 6 := qR rfl rfl rfl rfl
theorem q56_1111 : QS 56 g56 [1, 1, 1, 1] := qS rfl
theorem q56_11110 : QS 56 g56 [0, 1, 1, 1, 1] := qS rfl
theorem q56_111100 : QR 56 g56 [0, 0, 1, 1, 1, 1] 2 := qR rfl rfl rfl rfl
theorem q56_111101 : QC 56 g56 [1, 0, 1, 1, 1, 1] 18 := qC rfl
theorem q56_1111010 : QS 56 g56 [0, 1, 0, 1, 1, 1, 1] := qS rfl
theorem q56_11110100 : QR 56 g56 [0, 0, 1, 0, 1, 1, 1, 1] 1 := qR rfl rfl rfl rfl
theorem q56_11110101 : QT 56 g56 [1, 0, 1, 0, 1, 1, 1, 1] := qT rfl
theorem q56_1111011 : QK 56 g56 [1, 1, 0, 1, 1, 1, 1] := qK rfl
theorem q56_11111 : QS 56 g56 [1, 1, 1, 1, 1] := qS rfl
theorem q56_111110 : QR 56 g56 [0, 1, 1, 1, 1, 1] 2 := qR rfl rfl rfl rfl
theorem q56_111111 : QT 56 g56 [1, 1, 1, 1, 1, 1] := qT rfl
theorem q57_ : QS 57 g57 [] := qS rfl
theorem q57_0 : QR 57 g57 [0] 2 := qR rfl rfl rfl rfl
theorem q57_1 : QS 57 g57 [1] := qS rfl
theorem q57_10 : QR 57 g57 [0, 1] 6 := qR rfl rfl rfl rfl
theorem q57_11 : QS 57 g57 [1, 1] := qS rfl
theorem q57_110 : QS 57 g57 [0, 1, 1] := qS rfl
theorem q57_1100 : QR 57 g57 [0, 0, 1, 1] 2 := qR rfl rfl rfl rfl
theorem q57_1101 : QC 57 g57 [1, 0, 1, 1] 11 := qC rfl
theorem q57_11010 : QS 57 g57 [0, 1, 0, 1, 1] := qS rfl
theorem q57_110100 : QR 57 g57 [0, 0, 1, 0, 1, 1] 1 := qR rfl rfl rfl rfl
theorem q57_110101 : QT 57 g57 [1, 0, 1, 0, 1, 1] := qT rfl
theorem q57_11011 : QK 57 g57 [1, 1, 0, 1, 1] := qK rfl
theorem q57_111 : QS 57 g57 [1, 1, 1] := qS rfl
theorem q57_1110 : QR 57 g57 [0, 1, 1, 1] 6 := qR rfl rfl rfl rfl
theorem q57_1111 : QS 57 g57 [1, 1, 1, 1] := qS rfl
theorem q57_11110 : QS 57 g57 [0, 1, 1, 1, 1] := qS rfl
theorem q57_111100 : QR 57 g57 [0, 0, 1, 1, 1, 1] 2 := qR rfl rfl rfl rfl
theorem q57_111101 : QC 57 g57 [1, 0, 1, 1, 1, 1] 18 := qC rfl
theorem q57_1111010 : QS 57 g57 [0, 1, 0, 1, 1, 1, 1] := qS rfl
theorem q57_11110100 : QR 57 g57 [0, 0, 1, 0, 1, 1, 1, 1] 1 := qR rfl rfl rfl rfl
theorem q57_11110101 : QT 57 g57 [1, 0, 1, 0, 1, 1, 1, 1] := qT rfl
theorem q57_1111011 : QK 57 g57 [1, 1, 0, 1, 1, 1, 1] := qK rfl
theorem q57_11111 : QS 57 g57 [1, 1, 1, 1, 1] := qS rfl
theorem q57_111110 : QR 57 g57 [0, 1, 1, 1, 1, 1] 6 := qR rfl rfl rfl rfl
theorem q57_111111 : QS 57 g57 [1, 1, 1, 1, 1, 1] := qS rfl
theorem q57_1111110 : QS 57 g57 [0, 1, 1, 1, 1, 1, 1] := qS rfl
theorem q57_11111100 : QR 57 g57 [0, 0, 1, 1, 1, 1, 1, 1] 2 := qR rfl rfl rfl rfl
theorem q57_11111101 : QC 57 g57 [1, 0, 1, 1, 1, 1, 1, 1] 25 := qC rfl
theorem q57_111111010 : QS 57 g57 [0, 1, 0, 1, 1, 1, 1, 1, 1] := qS rfl
theorem q57_1111110100 : QR 57 g57 [0, 0, 1, 0, 1, 1, 1, 1, 1, 1] 1 := qR rfl rfl rfl rfl
theorem q57_1111110101 : QT 57 g57 [1, 0, 1, 0, 1, 1, 1, 1, 1, 1] := qT rfl
theorem q57_111111011 : QK 57 g57 [1, 1, 0, 1, 1, 1, 1, 1, 1] := qK rfl
theorem q57_1111111 : QS 57 g57 [1, 1, 1, 1, 1, 1, 1] := qS rfl
theorem q57_11111110 : QR 57 g57 [0, 1, 1, 1, 1, 1, 1, 1] 2 := qR rfl rfl rfl rfl
theorem q57_11111111 : QT 57 g57 [1, 1, 1, 1, 1, 1, 1, 1] := qT rfl
theorem q58_ : QS 58 g58 [] := qS rfl
theorem q58_0 : QR 58 g58 [0] 2 := qR rfl rfl rfl rfl
theorem q58_1 : QS 58 g58 [1] := qS rfl
theorem q58_10 : QR 58 g58 [0, 1] 1 := qR rfl rfl rfl rfl
theorem q58_11 : QS 58 g58 [1, 1] := qS rfl
theorem q58_110 : QR 58 g58 [0, 1, 1] 4 := qR rfl rfl rfl rfl
theorem q58_111 : QS 58 g58 [1, 1, 1] := qS rfl
theorem q58_1110 : QR 58 g58 [0, 1, 1, 1] 4 := qR rfl rfl rfl rfl
theorem q58_1111 : QS 58 g58 [1, 1, 1, 1] := qS rfl
theorem q58_11110 : QR 58 g58 [0, 1, 1, 1, 1] 2 := qR rfl rfl rfl rfl
theorem q58_11111 : QT 58 g58 [1, 1, 1, 1, 1] := qT rfl
theorem q59_ : QS 59 g59 [] := qS rfl
theorem q59_0 : QR 59 g59 [0] 2 := qR rfl rfl rfl rfl
theorem q59_1 : QS 59 g59 [1] := qS rfl
theorem q59_10 : QR 59 g59 [0, 1] 1 := qR rfl rfl rfl rfl
theorem q59_11 : QS 59 g59 [1, 1] := qS rfl
theorem q59_110 : QR 59 g59 [0, 1, 1] 4 := qR rfl rfl rfl rfl
theorem q59_111 : QS 59 g59 [1, 1, 1] := qS rfl
theorem q59_1110 : QR 59 g59 [0, 1, 1, 1] 4 := qR rfl rfl rfl rfl
theorem q59_1111 : QS 59 g59 [1, 1, 1, 1] := qS rfl
theorem q59_11110 : QR 59 g59 [0, 1, 1, 1, 1] 2 := qR rfl rfl rfl rfl
theorem q59_11111 : QT 59 g59 [1, 1, 1, 1, 1] := qT rfl
theorem q60_ : QS 60 g60 [] := qS rfl
theorem q60_0 : QR 60 g60 [0] 2 := qR rfl rfl rfl rfl
theorem q60_1 : QS 60 g60 [1] := qS rfl
theorem q60_10 : QR 60 g60 [0, 1] 1 := qR rfl rfl rfl rfl
theorem q60_11 : QS 60 g60 [1, 1] := qS rfl
theorem q60_110 : QR 60 g60 [0, 1, 1] 4 := qR rfl rfl rfl rfl
theorem q60_111 : QS 60 g60 [1, 1, 1] := qS rfl
theorem q60_1110 : QR 60 g60 [0, 1, 1, 1] 4 := qR rfl rfl rfl rfl
theorem q60_1111 : QS 60 g60 [1, 1, 1, 1] := qS rfl
theorem q60_11110 : QR 60 g60 [0, 1, 1, 1, 1] 4 := qR rfl rfl rfl rfl
theorem q60_11111 : QS 60 g60 [1, 1, 1, 1, 1] := qS rfl
theorem q60_111110 : QR 60 g60 [0, 1, 1, 1, 1, 1] 2 := qR rfl rfl rfl rfl
theorem q60_111111 : QT 60 g60 [1, 1, 1, 1, 1, 1] := qT rfl
theorem q61_ : QS 61 g61 [] := qS rfl
theorem q61_0 : QR 61 g61 [0] 3 := qR rfl rfl rfl rfl
theorem q61_1 : QS 61 g61 [1] := qS rfl
theorem q61_10 : QS 61 g61 [0, 1] := qS rfl
theorem q61_100 : QR 61 g61 [0, 0, 1] 5 := qR rfl rfl rfl rfl
theorem q61_101 : QC 61 g61 [1, 0, 1] 9 := qC rfl
theorem q61_1010 : QS 61 g61 [0, 1, 0, 1] := qS rfl
theorem q61_10100 : QR 61 g61 [0, 0, 1, 0, 1] 1 := qR rfl rfl rfl rfl
theorem q61_10101 : QT 61 g61 [1, 0, 1, 0, 1] := qT rfl
theorem q61_1011 : QK 61 g61 [1, 1, 0, 1] := qK rfl
theorem q61_11 : QS 61 g61 [1, 1] := qS rfl
theorem q61_110 : QS 61 g61 [0, 1, 1] := qS rfl
theorem q61_1100 : QR 61 g61 [0, 0, 1, 1] 5 := qR rfl rfl rfl rfl
theorem q61_1101 : QC 61 g61 [1, 0, 1, 1] 14 := qC rfl
theorem q61_11010 : QS 61 g61 [0, 1, 0, 1, 1] := qS rfl
theorem q61_110100 : QR 61 g61 [0, 0, 1, 0, 1, 1] 1 := qR rfl rfl rfl rfl
theorem q61_110101 : QT 61 g61 [1, 0, 1, 0, 1, 1] := qT rfl
theorem q61_11011 : QK 61 g61 [1, 1, 0, 1, 1] := qK rfl
theorem q61_111 : QS 61 g61 [1, 1, 1] := qS rfl
theorem q61_1110 : QR 61 g61 [0, 1, 1, 1] 1 := qR rfl rfl rfl rfl
theorem q61_1111 : QT 61 g61 [1, 1, 1, 1] := qT rfl
theorem q62_ : QS 62 g62 [] := qS rfl
theorem q62_0 : QR 62 g62 [0] 3 := qR rfl rfl rfl rfl
theorem q62_1 : QS 62 g62 [1] := qS rfl
theorem q62_10 : QS 62 g62 [0, 1] := qS rfl
theorem q62_100 : QR 62 g62 [0, 0, 1] 5 := qR rfl rfl rfl rfl
theorem q62_101 : QC 62 g62 [1, 0, 1] 9 := qC rfl
theorem q62_1010 : QS 62 g62 [0, 1, 0, 1] := qS rfl
theorem q62_10100 : QR 62 g62 [0, 0, 1, 0, 1] 1 := qR rfl rfl rfl rfl
theorem q62_10101 : QT 62 g62 [1, 0, 1, 0, 1] := qT rfl
theorem q62_1011 : QK 62 g62 [1, 1, 0, 1] := qK rfl
theorem q62_11 : QS 62 g62 [1, 1] := qS rfl
theorem q62_110 : QS 62 g62 [0, 1, 1] := qS rfl
theorem q62_1100 : QR 62 g62 [0, 0, 1, 1] 5 := qR rfl rfl rfl rfl
theorem q62_1101 : QC 62 g62 [1, 0, 1, 1] 14 := qC rfl
theorem q62_11010 : QS 62 g62 [0, 1, 0, 1, 1] := qS rfl
theorem q62_110100 : QR 62 g62 [0, 0, 1, 0, 1, 1] 1 := qR rfl rfl rfl rfl
theorem q62_110101 : QT 62 g62 [1, 0, 1, 0, 1, 1] := qT rfl
theorem q62_11011 : QK 62 g62 [1, 1, 0, 1, 1] := qK rfl
theorem q62_111 : QS 62 g62 [1, 1, 1] := qS rfl
theorem q62_1110 : QR 62 g62 [0, 1, 1, 1] 1 := qR rfl rfl rfl rfl
theorem q62_1111 : QT 62 g62 [1, 1, 1, 1] := qT rfl
theorem q63_ : QS 63 g63 [] := qS rfl
theorem q63_0 : QR 63 g63 [0] 3 := qR rfl rfl rfl rfl
theorem q63_1 : QS 63 g63 [1] := qS rfl
theorem q63_10 : QS 63 g63 [0, 1] := qS rfl
theorem q63_100 : QR 63 g63 [0, 0, 1] 5 := qR rfl rfl rfl rfl
theorem q63_101 : QC 63 g63 [1, 0, 1] 9 := qC rfl
theorem q63_1010 : QS 63 g63 [0, 1, 0, 1] := qS rfl
theorem q63_10100 : QR 63 g63 [0, 0, 1, 0, 1] 1 := qR rfl rfl rfl rfl
theorem q63_10101 : QT 63 g63 [1, 0, 1, 0, 1] := qT rfl
theorem q63_1011 : QK 63 g63 [1, 1, 0, 1] := qK rfl
theorem q63_11 : QS 63 g63 [1, 1] := qS rfl
theorem q63_110 : QS 63 g63 [0, 1, 1] := qS rfl
theorem q63_1100 : QR 63 g63 [0, 0, 1, 1] 5 := qR rfl rfl rfl rfl
theorem q63_1101 : QC 63 g63 [1, 0, 1, 1] 14 := qC rfl
theorem q63_11010 : QS 63 g63 [0, 1, 0, 1, 1] := qS rfl
theorem q63_110100 : QR 63 g63 [0, 0, 1, 0, 1, 1] 1 := qR rfl rfl rfl rfl
theorem q63_110101 : QT 63 g63 [1, 0, 1, 0, 1, 1] := qT rfl
theorem q63_11011 : QK 63 g63 [1, 1, 0, 1, 1] := qK rfl
theorem q63_111 : QS 63 g63 [1, 1, 1] := qS rfl
theorem q63_1110 : QS 63 g63 [0, 1, 1, 1] := qS rfl
theorem q63_11100 : QR 63 g63 [0, 0, 1, 1, 1] 5 := qR rfl rfl rfl rfl
theorem q63_11101 : QC 63 g63 [1, 0, 1, 1, 1] 19 := qC rfl
theorem q63_111010 : QS 63 g63 [0, 1, 0, 1, 1, 1] := qS rfl
theorem q63_1110100 : QR 63 g63 [0, 0, 1, 0, 1, 1, 1] 1 := qR rfl rfl rfl rfl
theorem q63_1110101 : QT 63 g63 [1, 0, 1, 0, 1, 1, 1] := qT rfl
theorem q63_111011 : QK 63 g63 [1, 1, 0, 1, 1, 1] := qK rfl
theorem q63_1111 : QS 63 g63 [1, 1, 1, 1] := qS rfl
theorem q63_11110 : QR 63 g63 [0, 1, 1, 1, 1] 1 := qR rfl rfl rfl rfl
theorem q63_11111 : QT 63 g63 [1, 1, 1, 1, 1] := qT rfl
theorem o10 : OE g10 Try.f10 [0] ∧ OE g10 Try.f10 [0, 1] ∧ OE g10 Try.f10 [0, 0, 1, 1] ∧ OE g10 Try.f10 [0, 0, 1, 0, 1, 1] ∧ OE g10 Try.f10 [0, 1, 1, 1] ∧ OE g10 Try.f10 [0, 0, 1, 1, 1, 1] ∧ OE g10 Try.f10 [0, 0, 1, 0, 1, 1, 1, 1] ∧ OE g10 Try.f10 [0, 1, 1, 1, 1, 1] ∧ OE g10 Try.f10 [0, 0, 1, 1, 1, 1, 1, 1] ∧ OE g10 Try.f10 [0, 0, 1, 0, 1, 1, 1, 1, 1, 1] ∧ OE g10 Try.f10 [0, 1, 1, 1, 1, 1, 1, 1] ∧ OE g10 Try.f10 [0, 0, 1, 1, 1, 1, 1, 1, 1, 1] ∧ OE g10 Try.f10 [0, 0, 1, 0, 1, 1, 1, 1, 1, 1, 1, 1] ∧ OE g10 Try.f10 [0, 1, 1, 1, 1, 1, 1, 1, 1, 1] ∧ OE g10 Try.f10 [0, 0, 1, 1, 1, 1, 1, 1, 1, 1, 1, 1] ∧ OE g10 Try.f10 [0, 0, 1, 0, 1, 1, 1, 1, 1, 1, 1, 1, 1, 1] ∧ OE g10 Try.f10 [0, 1, 1, 1, 1, 1, 1, 1, 1, 1, 1, 1] := ⟨oe_eq _ _, oe_eq _ _, oe_eq _ _, oe_eq _ _, oe_eq _ _, oe_eq _ _, oe_eq _ _, oe_eq _ _, oe_eq _ _, oe_eq _ _, oe_eq _ _, oe_eq _ _, oe_eq _ _, oe_eq _ _, oe_eq _ _, oe_eq _ _, oe_eq _ _⟩
theorem o11 : OE g11 Try.f11 [0] ∧ OE g11 Try.f11 [0, 1] ∧ OE g11 Try.f11 [0, 0, 1, 1] ∧ OE g11 Try.f11 [0, 0, 1, 0, 1, 1] ∧ OE g11 Try.f11 [0, 1, 1, 1] ∧ OE g11 Try.f11 [0, 0, 1, 1, 1, 1] ∧ OE g11 Try.f11 [0, 0, 1, 0, 1, 1, 1, 1] ∧ OE g11 Try.f11 [0, 1, 1, 1, 1, 1] := ⟨oe_eq _ _, oe_eq _ _, oe_eq _ _, oe_eq _ _, oe_eq _ _, oe_eq _ _, oe_eq _ _, oe_eq _ _⟩
theorem o12 : OE g12 Try.f12 [0] ∧ OE g12 Try.f12 [0, 1] ∧ OE g12 Try.f12 [0, 0, 1, 1] ∧ OE g12 Try.f12 [0, 0, 1, 0, 1, 1] ∧ OE g12 Try.f12 [0, 0, 1, 1, 1] ∧ OE g12 Try.f12 [0, 0, 0, 0, 1, 0, 1, 1, 1] ∧ OE g12 Try.f12 [0, 0, 0, 1, 0, 0, 1, 0, 1, 1, 1] ∧ OE g12 Try.f12 [0, 1, 0, 0, 1, 0, 0, 1, 0, 1, 1, 1] ∧ OE g12 Try.f12 [0, 0, 1, 1, 0, 0, 1, 0, 0, 1, 0, 1, 1, 1] ∧ OE g12 Try.f12 [1, 1, 0, 0, 1, 0, 1, 1, 1] ∧ OE g12 Try.f12 [0, 1, 1, 1, 1] := ⟨oe_eq _ _, oe_eq _ _, oe_eq _ _, oe_eq _ _, oe_eq _ _, oe_eq _ _, oe_eq _ _, oe_eq _ _, oe_eq _ _, oe_eq _ _, oe_eq _ _⟩
theorem o12_1110100 : OE g12 Try.f12 [0, 0, 0, 0, 1, 0, 1, 1, 1] ∧ OE g12 Try.f12 [0, 0, 0, 1, 0, 0, 1, 0, 1, 1, 1] ∧ OE g12 Try.f12 [0, 1, 0, 0, 1, 0, 0, 1, 0, 1, 1, 1] ∧ OE g12 Try.f12 [0, 0, 1, 1, 0, 0, 1, 0, 0, 1, 0, 1, 1, 1] ∧ OE g12 Try.f12 [1, 1, 0, 0, 1, 0, 1, 1, 1] := ⟨oe_eq _ _, oe_eq _ _, oe_eq _ _, oe_eq _ _, oe_eq _ _⟩
theorem o13 : OE g13 Try.f13 [0] ∧ OE g13 Try.f13 [0, 1] ∧ OE g13 Try.f13 [0, 0, 1, 1] ∧ OE g13 Try.f13 [0, 0, 1, 0, 1, 1] ∧ OE g13 Try.f13 [0, 1, 1, 1] ∧ OE g13 Try.f13 [0, 0, 1, 1, 1, 1] ∧ OE g13 Try.f13 [0, 0, 1, 0, 1, 1, 1, 1] ∧ OE g13 Try.f13 [0, 1, 1, 1, 1, 1] ∧ OE g13 Try.f13 [0, 0, 1, 1, 1, 1, 1, 1] ∧ OE g13 Try.f13 [0, 0, 1, 0, 1, 1, 1, 1, 1, 1] ∧ OE g13 Try.f13 [0, 1, 1, 1, 1, 1, 1, 1] := ⟨oe_eq _ _, oe_eq _ _, oe_eq _ _, oe_eq _ _, oe_eq _ _, oe_eq _ _, oe_eq _ _, oe_eq _ _, oe_eq _ _, oe_eq _ _, oe_eq _ _⟩
theorem o14 : OE g14 Try.f14 [0] ∧ OE g14 Try.f14 [0, 1] ∧ OE g14 Try.f14 [0, 0, 1, 1] ∧ OE g14 Try.f14 [0, 0, 1, 0, 1, 1] ∧ OE g14 Try.f14 [0, 0, 1, 1, 1] ∧ OE g14 Try.f14 [0, 0, 0, 0, 1, 0, 1, 1, 1] ∧ OE g14 Try.f14 [0, 0, 0, 1, 0, 0, 1, 0, 1, 1, 1] ∧ OE g14 Try.f14 [0, 1, 0, 0, 1, 0, 0, 1, 0, 1, 1, 1] ∧ OE g14 Try.f14 [0, 0, 1, 1, 0, 0, 1, 0, 0, 1, 0, 1, 1, 1] ∧ OE g14 Try.f14 [1, 1, 0, 0, 1, 0, 1, 1, 1] ∧ OE g14 Try.f14 [0, 1, 1, 1, 1] := ⟨oe_eq _ _, oe_eq _ _, oe_eq _ _, oe_eq _ _, oe_eq _ _, oe_eq _ _, oe_eq _ _, oe_eq _ _, oe_eq _ _, oe_eq _ _, oe_eq _ _⟩
theorem o14_1110100 : OE g14 Try.f14 [0, 0, 0, 0, 1, 0, 1, 1, 1] ∧ OE g14 Try.f14 [0, 0, 0, 1, 0, 0, 1, 0, 1, 1, 1] ∧ OE g14 Try.f14 [0, 1, 0, 0, 1, 0, 0, 1, 0, 1, 1, 1] ∧ OE g14 Try.f14 [0, 0, 1, 1, 0, 0, 1, 0, 0, 1, 0, 1, 1, 1] ∧ OE g14 Try.f14 [1, 1, 0, 0, 1, 0, 1, 1, 1] := ⟨oe_eq _ _, oe_eq _ _, oe_eq _ _, oe_eq _ _, oe_eq _ _⟩
theorem o15 : OE g15 Try.f15 [0] ∧ OE g15 Try.f15 [0, 1] ∧ OE g15 Try.f15 [0, 1, 1] ∧ OE g15 Try.f15 [0, 1, 1, 1] ∧ OE g15 Try.f15 [0, 1, 1, 1, 1] ∧ OE g15 Try.f15 [0, 1, 1, 1, 1, 1] ∧ OE g15 Try.f15 [0, 1, 1, 1, 1, 1, 1] ∧ OE g15 Try.f15 [0, 1, 1, 1, 1, 1, 1, 1] ∧ OE g15 Try.f15 [0, 0, 1, 1, 1, 1, 1, 1, 1, 1] ∧ OE g15 Try.f15 [0, 0, 0, 0, 1, 0, 1, 1, 1, 1, 1, 1, 1, 1] ∧ OE g15 Try.f15 [0, 0, 0, 1, 0, 0, 1, 0, 1, 1, 1, 1, 1, 1, 1, 1] ∧ OE g15 Try.f15 [0, 1, 0, 0, 1, 0, 0, 1, 0, 1, 1, 1, 1, 1, 1, 1, 1] ∧ OE g15 Try.f15 [0, 1, 1, 0, 0, 1, 0, 0, 1, 0, 1, 1, 1, 1, 1, 1, 1, 1] ∧ OE g15 Try.f15 [1, 1, 1, 0, 0, 1, 0, 0, 1, 0, 1, 1, 1, 1, 1, 1, 1, 1] ∧ OE g15 Try.f15 [1, 1, 0, 0, 1, 0, 1, 1, 1, 1, 1, 1, 1, 1] ∧ OE g15 Try.f15 [0, 1, 1, 1, 1, 1, 1, 1, 1, 1] := ⟨oe_eq _ _, oe_eq _ _, oe_eq _ _, oe_eq _ _, oe_eq _ _, oe_eq _ _, oe_eq _ _, oe_eq _ _, oe_eq _ _, oe_eq _ _, oe_eq _ _, oe_eq _ _, oe_eq _ _, oe_eq _ _, oe_eq _ _, oe_eq _ _⟩
theorem o15_111111110100 : OE g15 Try.f15 [0, 0, 0, 0, 1, 0, 1, 1, 1, 1, 1, 1, 1, 1] ∧ OE g15 Try.f15 [0, 0, 0, 1, 0, 0, 1, 0, 1, 1, 1, 1, 1, 1, 1, 1] ∧ OE g15 Try.f15 [0, 1, 0, 0, 1, 0, 0, 1, 0, 1, 1, 1, 1, 1, 1, 1, 1] ∧ OE g15 Try.f15 [0, 1, 1, 0, 0, 1, 0, 0, 1, 0, 1, 1, 1, 1, 1, 1, 1, 1] ∧ OE g15 Try.f15 [1, 1, 1, 0, 0, 1, 0, 0, 1, 0, 1, 1, 1, 1, 1, 1, 1, 1] ∧ OE g15 Try.f15 [1, 1, 0, 0, 1, 0, 1, 1, 1, 1, 1, 1, 1, 1] := ⟨oe_eq _ _, oe_eq _ _, oe_eq _ _, oe_eq _ _, oe_eq _ _, oe_eq _ _⟩
theorem o16 : OE g16 Try.f16 [0] ∧ OE g16 Try.f16 [0, 1] ∧ OE g16 Try.f16 [0, 1, 1] ∧ OE g16 Try.f16 [0, 1, 1, 1] ∧ OE g16 Try.f16 [0, 1, 1, 1, 1] ∧ OE g16 Try.f16 [0, 1, 1, 1, 1, 1] ∧ OE g16 Try.f16 [0, 1, 1, 1, 1, 1, 1] ∧ OE g16 Try.f16 [0, 1, 1, 1, 1, 1, 1, 1] := ⟨oe_eq _ _, oe_eq _ _, oe_eq _ _, oe_eq _ _, oe_eq _ _, oe_eq _ _, oe_eq _ _, oe_eq _ _⟩
theorem o17 : OE g17 Try.f17 [0] ∧ OE g17 Try.f17 [0, 1] ∧ OE g17 Try.f17 [0, 0, 1, 1] ∧ OE g17 Try.f17 [0, 0, 0, 0, 1, 0, 1, 1] ∧ OE g17 Try.f17 [0, 0, 1, 0, 0, 1, 0, 1, 1] ∧ OE g17 Try.f17 [1, 1, 0, 0, 1, 0, 1, 1] ∧ OE g17 Try.f17 [0, 1, 1, 1] := ⟨oe_eq _ _, oe_eq _ _, oe_eq _ _, oe_eq _ _, oe_eq _ _, oe_eq _ _, oe_eq _ _⟩
theorem o17_110100 : OE g17 Try.f17 [0, 0, 0, 0, 1, 0, 1, 1] ∧ OE g17 Try.f17 [0, 0, 1, 0, 0, 1, 0, 1, 1] ∧ OE g17 Try.f17 [1, 1, 0, 0, 1, 0, 1, 1] := ⟨oe_eq _ _, oe_eq _ _, oe_eq _ _⟩
theorem o18 : OE g18 Try.f18 [0] ∧ OE g18 Try.f18 [0, 1] ∧ OE g18 Try.f18 [0, 1, 1] ∧ OE g18 Try.f18 [0, 1, 1, 1] ∧ OE g18 Try.f18 [0, 1, 1, 1, 1] ∧ OE g18 Try.f18 [0, 1, 1, 1, 1, 1] := ⟨oe_eq _ _, oe_eq _ _, oe_eq _ _, oe_eq _ _, oe_eq _ _, oe_eq _ _⟩
theorem o19 : OE g19 Try.f19 [0] ∧ OE g19 Try.f19 [0, 1] ∧ OE g19 Try.f19 [0, 0, 1, 1] ∧ OE g19 Try.f19 [0, 0, 0, 0, 1, 0, 1, 1] ∧ OE g19 Try.f19 [0, 0, 1, 0, 0, 1, 0, 1, 1] ∧ OE g19 Try.f19 [1, 1, 0, 0, 1, 0, 1, 1] ∧ OE g19 Try.f19 [0, 1, 1, 1] := ⟨oe_eq _ _, oe_eq _ _, oe_eq _ _, oe_eq _ _, oe_eq _ _, oe_eq _ _, oe_eq _ _⟩
theorem o19_110100 : OE g19 Try.f19 [0, 0, 0, 0, 1, 0, 1, 1] ∧ OE g19 Try.f19 [0, 0, 1, 0, 0, 1, 0, 1, 1] ∧ OE g19 Try.f19 [1, 1, 0, 0, 1, 0, 1, 1] := ⟨oe_eq _ _, oe_eq _ _, oe_eq _ _⟩
theorem o20 : OE g20 Try.f20 [0] ∧ OE g20 Try.f20 [0, 1] ∧ OE g20 Try.f20 [0, 1, 1] ∧ OE g20 Try.f20 [0, 1, 1, 1] ∧ OE g20 Try.f20 [0, 0, 1, 1, 1, 1] ∧ OE g20 Try.f20 [0, 0, 0, 1, 0, 1, 1, 1, 1] ∧ OE g20 Try.f20 [0, 0, 0, 1, 1, 0, 0, 1, 0, 1, 1, 1, 1] ∧ OE g20 Try.f20 [0, 1, 0, 0, 1, 1, 0, 0, 1, 0, 1, 1, 1, 1] ∧ OE g20 Try.f20 [1, 1, 0, 0, 1, 1, 0, 0, 1, 0, 1, 1, 1, 1] ∧ OE g20 Try.f20 [1, 1, 1, 0, 0, 1, 0, 1, 1, 1, 1] ∧ OE g20 Try.f20 [0, 1, 1, 1, 1, 1] := ⟨oe_eq _ _, oe_eq _ _, oe_eq _ _, oe_eq _ _, oe_eq _ _, oe_eq _ _, oe_eq _ _, oe_eq _ _, oe_eq _ _, oe_eq _ _, oe_eq _ _⟩
theorem o20_11110100 : OE g20 Try.f20 [0, 0, 0, 1, 0, 1, 1, 1, 1] ∧ OE g20 Try.f20 [0, 0, 0, 1, 1, 0, 0, 1, 0, 1, 1, 1, 1] ∧ OE g20 Try.f20 [0, 1, 0, 0, 1, 1, 0, 0, 1, 0, 1, 1, 1, 1] ∧ OE g20 Try.f20 [1, 1, 0, 0, 1, 1, 0, 0, 1, 0, 1, 1, 1, 1] ∧ OE g20 Try.f20 [1, 1, 1, 0, 0, 1, 0, 1, 1, 1, 1] := ⟨oe_eq _ _, oe_eq _ _, oe_eq _ _, oe_eq _ _, oe_eq _ _⟩
theorem o21 : OE g21 Try.f21 [0] ∧ OE g21 Try.f21 [0, 0, 1] ∧ OE g21 Try.f21 [0, 0, 1, 0, 1] ∧ OE g21 Try.f21 [0, 0, 1, 1] ∧ OE g21 Try.f21 [0, 0, 1, 0, 1, 1] ∧ OE g21 Try.f21 [0, 0, 1, 1, 1] ∧ OE g21 Try.f21 [0, 0, 1, 0, 1, 1, 1] ∧ OE g21 Try.f21 [0, 0, 1, 1, 1, 1] ∧ OE g21 Try.f21 [0, 0, 1, 0, 1, 1, 1, 1] ∧ OE g21 Try.f21 [0, 0, 1, 1, 1, 1, 1] ∧ OE g21 Try.f21 [0, 0, 1, 0, 1, 1, 1, 1, 1] ∧ OE g21 Try.f21 [0, 1, 1, 1, 1, 1, 1] := ⟨oe_eq _ _, oe_eq _ _, oe_eq _ _, oe_eq _ _, oe_eq _ _, oe_eq _ _, oe_eq _ _, oe_eq _ _, oe_eq _ _, oe_eq _ _, oe_eq _ _, oe_eq _ _⟩
theorem o22 : OE g22 Try.f22 [0] ∧ OE g22 Try.f22 [0, 0, 1] ∧ OE g22 Try.f22 [0, 0, 1, 0, 1] ∧ OE g22 Try.f22 [0, 0, 1, 1] ∧ OE g22 Try.f22 [0, 0, 0, 0, 1, 0, 1, 1] ∧ OE g22 Try.f22 [0, 0, 0, 1, 0, 0, 1, 0, 1, 1] ∧ OE g22 Try.f22 [0, 0, 1, 0, 0, 1, 0, 0, 1, 0, 1, 1] ∧ OE g22 Try.f22 [1, 1, 0, 0, 1, 0, 1, 1] ∧ OE g22 Try.f22 [0, 1, 1, 1] := ⟨oe_eq _ _, oe_eq _ _, oe_eq _ _, oe_eq _ _, oe_eq _ _, oe_eq _ _, oe_eq _ _, oe_eq _ _, oe_eq _ _⟩
theorem o22_110100 : OE g22 Try.f22 [0, 0, 0, 0, 1, 0, 1, 1] ∧ OE g22 Try.f22 [0, 0, 0, 1, 0, 0, 1, 0, 1, 1] ∧ OE g22 Try.f22 [0, 0, 1, 0, 0, 1, 0, 0, 1, 0, 1, 1] ∧ OE g22 Try.f22 [1, 1, 0, 0, 1, 0, 1, 1] := ⟨oe_eq _ _, oe_eq _ _, oe_eq _ _, oe_eq _ _⟩
theorem o23 : OE g23 Try.f23 [0] ∧ OE g23 Try.f23 [0, 0, 1] ∧ OE g23 Try.f23 [0, 0, 1, 0, 1] ∧ OE g23 Try.f23 [0, 0, 1, 1] ∧ OE g23 Try.f23 [0, 0, 1, 0, 1, 1] ∧ OE g23 Try.f23 [0, 0, 1, 1, 1] ∧ OE g23 Try.f23 [0, 0, 1, 0, 1, 1, 1] ∧ OE g23 Try.f23 [0, 1, 1, 1, 1] := ⟨oe_eq _ _, oe_eq _ _, oe_eq _ _, oe_eq _ _, oe_eq _ _, oe_eq _ _, oe_eq _ _, oe_eq _ _⟩
theorem o24 : OE g24 Try.f24 [0] ∧ OE g24 Try.f24 [0, 0, 1] ∧ OE g24 Try.f24 [0, 0, 1, 0, 1] ∧ OE g24 Try.f24 [0, 0, 1, 1] ∧ OE g24 Try.f24 [0, 0, 0, 0, 1, 0, 1, 1] ∧ OE g24 Try.f24 [0, 0, 0, 1, 0, 0, 1, 0, 1, 1] ∧ OE g24 Try.f24 [0, 0, 1, 0, 0, 1, 0, 0, 1, 0, 1, 1] ∧ OE g24 Try.f24 [1, 1, 0, 0, 1, 0, 1, 1] ∧ OE g24 Try.f24 [0, 1, 1, 1] := ⟨oe_eq _ _, oe_eq _ _, oe_eq _ _, oe_eq _ _, oe_eq _ _, oe_eq _ _, oe_eq _ _, oe_eq _ _, oe_eq _ _⟩
theorem o24_110100 : OE g24 Try.f24 [0, 0, 0, 0, 1, 0, 1, 1] ∧ OE g24 Try.f24 [0, 0, 0, 1, 0, 0, 1, 0, 1, 1] ∧ OE g24 Try.f24 [0, 0, 1, 0, 0, 1, 0, 0, 1, 0, 1, 1] ∧ OE g24 Try.f24 [1, 1, 0, 0, 1, 0, 1, 1] := ⟨oe_eq _ _, oe_eq _ _, oe_eq _ _, oe_eq _ _⟩
theorem o25 : OE g25 Try.f25 [0] ∧ OE g25 Try.f25 [0, 1] ∧ OE g25 Try.f25 [0, 1, 1] ∧ OE g25 Try.f25 [0, 1, 1, 1] := ⟨oe_eq _ _, oe_eq _ _, oe_eq _ _, oe_eq _ _⟩
theorem o26 : OE g26 Try.f26 [0] ∧ OE g26 Try.f26 [0, 0, 1] ∧ OE g26 Try.f26 [0, 0, 0, 0, 1, 0, 1] ∧ OE g26 Try.f26 [0, 0, 0, 1, 0, 0, 1, 0, 1] ∧ OE g26 Try.f26 [1, 0, 0, 1, 0, 0, 1, 0, 1] ∧ OE g26 Try.f26 [1, 1, 0, 0, 1, 0, 1] ∧ OE g26 Try.f26 [0, 1, 1] := ⟨oe_eq _ _, oe_eq _ _, oe_eq _ _, oe_eq _ _, oe_eq _ _, oe_eq _ _, oe_eq _ _⟩
theorem o26_10100 : OE g26 Try.f26 [0, 0, 0, 0, 1, 0, 1] ∧ OE g26 Try.f26 [0, 0, 0, 1, 0, 0, 1, 0, 1] ∧ OE g26 Try.f26 [1, 0, 0, 1, 0, 0, 1, 0, 1] ∧ OE g26 Try.f26 [1, 1, 0, 0, 1, 0, 1] := ⟨oe_eq _ _, oe_eq _ _, oe_eq _ _, oe_eq _ _⟩
theorem o27 : OE g27 Try.f27 [0] ∧ OE g27 Try.f27 [0, 1] ∧ OE g27 Try.f27 [0, 1, 1] ∧ OE g27 Try.f27 [0, 1, 1, 1] := ⟨oe_eq _ _, oe_eq _ _, oe_eq _ _, oe_eq _ _⟩
theorem o28 : OE g28 Try.f28 [0] ∧ OE g28 Try.f28 [0, 0, 1] ∧ OE g28 Try.f28 [0, 0, 0, 0, 1, 0, 1] ∧ OE g28 Try.f28 [0, 0, 0, 1, 0, 0, 1, 0, 1] ∧ OE g28 Try.f28 [0, 1, 0, 0, 1, 0, 0, 1, 0, 1] ∧ OE g28 Try.f28 [0, 1, 1, 0, 0, 1, 0, 0, 1, 0, 1] ∧ OE g28 Try.f28 [0, 1, 1, 1, 0, 0, 1, 0, 0, 1, 0, 1] ∧ OE g28 Try.f28 [0, 1, 1, 1, 1, 0, 0, 1, 0, 0, 1, 0, 1] ∧ OE g28 Try.f28 [0, 1, 1, 1, 1, 1, 0, 0, 1, 0, 0, 1, 0, 1] ∧ OE g28 Try.f28 [0, 1, 1, 1, 1, 1, 1, 0, 0, 1, 0, 0, 1, 0, 1] ∧ OE g28 Try.f28 [0, 1, 1, 1, 1, 1, 1, 1, 0, 0, 1, 0, 0, 1, 0, 1] ∧ OE g28 Try.f28 [0, 1, 1, 1, 1, 1, 1, 1, 1, 0, 0, 1, 0, 0, 1, 0, 1] ∧ OE g28 Try.f28 [0, 1, 1, 1, 1, 1, 1, 1, 1, 1, 0, 0, 1, 0, 0, 1, 0, 1] ∧ OE g28 Try.f28 [1, 1, 1, 1, 1, 1, 1, 1, 1, 1, 0, 0, 1, 0, 0, 1, 0, 1] ∧ OE g28 Try.f28 [1, 1, 0, 0, 1, 0, 1] ∧ OE g28 Try.f28 [0, 1, 1] := ⟨oe_eq _ _, oe_eq _ _, oe_eq _ _, oe_eq _ _, oe_eq _ _, oe_eq _ _, oe_eq _ _, oe_eq _ _, oe_eq _ _, oe_eq _ _, oe_eq _ _, oe_eq _ _, oe_eq _ _, oe_eq _ _, oe_eq _ _, oe_eq _ _⟩
theorem o28_10100 : OE g28 Try.f28 [0, 0, 0, 0, 1, 0, 1] ∧ OE g28 Try.f28 [0, 0, 0, 1, 0, 0, 1, 0, 1] ∧ OE g28 Try.f28 [0, 1, 0, 0, 1, 0, 0, 1, 0, 1] ∧ OE g28 Try.f28 [0, 1, 1, 0, 0, 1, 0, 0, 1, 0, 1] ∧ OE g28 Try.f28 [0, 1, 1, 1, 0, 0, 1, 0, 0, 1, 0, 1] ∧ OE g28 Try.f28 [0, 1, 1, 1, 1, 0, 0, 1, 0, 0, 1, 0, 1] ∧ OE g28 Try.f28 [0, 1, 1, 1, 1, 1, 0, 0, 1, 0, 0, 1, 0, 1] ∧ OE g28 Try.f28 [0, 1, 1, 1, 1, 1, 1, 0, 0, 1, 0, 0, 1, 0, 1] ∧ OE g28 Try.f28 [0, 1, 1, 1, 1, 1, 1, 1, 0, 0, 1, 0, 0, 1, 0, 1] ∧ OE g28 Try.f28 [0, 1, 1, 1, 1, 1, 1, 1, 1, 0, 0, 1, 0, 0, 1, 0, 1] ∧ OE g28 Try.f28 [0, 1, 1, 1, 1, 1, 1, 1, 1, 1, 0, 0, 1, 0, 0, 1, 0, 1] ∧ OE g28 Try.f28 [1, 1, 1, 1, 1, 1, 1, 1, 1, 1, 0, 0, 1, 0, 0, 1, 0, 1] ∧ OE g28 Try.f28 [1, 1, 0, 0, 1, 0, 1] := ⟨oe_eq _ _, oe_eq _ _, oe_eq _ _, oe_eq _ _, oe_eq _ _, oe_eq _ _, oe_eq _ _, oe_eq _ _, oe_eq _ _, oe_eq _ _, oe_eq _ _, oe_eq _ _, oe_eq _ _⟩
theorem o29 : OE g29 Try.f29 [0] ∧ OE g29 Try.f29 [0, 1] ∧ OE g29 Try.f29 [0, 0, 1, 1] ∧ OE g29 Try.f29 [0, 0, 1, 0, 1, 1] ∧ OE g29 Try.f29 [0, 1, 1, 1] ∧ OE g29 Try.f29 [0, 0, 1, 1, 1, 1] ∧ OE g29 Try.f29 [0, 0, 1, 0, 1, 1, 1, 1] ∧ OE g29 Try.f29 [0, 1, 1, 1, 1, 1] := ⟨oe_eq _ _, oe_eq _ _, oe_eq _ _, oe_eq _ _, oe_eq _ _, oe_eq _ _, oe_eq _ _, oe_eq _ _⟩
theorem o3 : OE g3 Try.f3 [0] ∧ OE g3 Try.f3 [0, 1] ∧ OE g3 Try.f3 [0, 1, 1] ∧ OE g3 Try.f3 [0, 0, 1, 1, 1] ∧ OE g3 Try.f3 [0, 0, 1, 0, 1, 1, 1] ∧ OE g3 Try.f3 [0, 1, 1, 1, 1] ∧ OE g3 Try.f3 [0, 1, 1, 1, 1, 1] ∧ OE g3 Try.f3 [0, 1, 1, 1, 1, 1, 1] ∧ OE g3 Try.f3 [0, 0, 1, 1, 1, 1, 1, 1, 1] ∧ OE g3 Try.f3 [0, 0, 1, 0, 1, 1, 1, 1, 1, 1, 1] ∧ OE g3 Try.f3 [0, 0, 1, 1, 1, 1, 1, 1, 1, 1] ∧ OE g3 Try.f3 [0, 0, 1, 0, 1, 1, 1, 1, 1, 1, 1, 1] ∧ OE g3 Try.f3 [0, 1, 1, 1, 1, 1, 1, 1, 1, 1] ∧ OE g3 Try.f3 [0, 1, 1, 1, 1, 1, 1, 1, 1, 1, 1] ∧ OE g3 Try.f3 [0, 0, 1, 1, 1, 1, 1, 1, 1, 1, 1, 1, 1] ∧ OE g3 Try.f3 [0, 0, 1, 0, 1, 1, 1, 1, 1, 1, 1, 1, 1, 1, 1] ∧ OE g3 Try.f3 [0, 1, 1, 1, 1, 1, 1, 1, 1, 1, 1, 1, 1] ∧ OE g3 Try.f3 [0, 1, 1, 1, 1, 1, 1, 1, 1, 1, 1, 1, 1, 1] ∧ OE g3 Try.f3 [0, 1, 1, 1, 1, 1, 1, 1, 1, 1, 1, 1, 1, 1, 1] ∧ OE g3 Try.f3 [0, 1, 1, 1, 1, 1, 1, 1, 1, 1, 1, 1, 1, 1, 1, 1] ∧ OE g3 Try.f3 [0, 0, 1, 1, 1, 1, 1, 1, 1, 1, 1, 1, 1, 1, 1, 1, 1, 1] ∧ OE g3 Try.f3 [0, 0, 1, 0, 1, 1, 1, 1, 1, 1, 1, 1, 1, 1, 1, 1, 1, 1, 1, 1] ∧ OE g3 Try.f3 [0, 0, 1, 1, 1, 1, 1, 1, 1, 1, 1, 1, 1, 1, 1, 1, 1, 1, 1] ∧ OE g3 Try.f3 [0, 0, 1, 0, 1, 1, 1, 1, 1, 1, 1, 1, 1, 1, 1, 1, 1, 1, 1, 1, 1] ∧ OE g3 Try.f3 [0, 1, 1, 1, 1, 1, 1, 1, 1, 1, 1, 1, 1, 1, 1, 1, 1, 1, 1] ∧ OE g3 Try.f3 [0, 0, 1, 1, 1, 1, 1, 1, 1, 1, 1, 1, 1, 1, 1, 1, 1, 1, 1, 1, 1] ∧ OE g3 Try.f3 [0, 0, 1, 0, 1, 1, 1, 1, 1, 1, 1, 1, 1, 1, 1, 1, 1, 1, 1, 1, 1, 1, 1] ∧ OE g3 Try.f3 [0, 1, 1, 1, 1, 1, 1, 1, 1, 1, 1, 1, 1, 1, 1, 1, 1, 1, 1, 1, 1] ∧ OE g3 Try.f3 [0, 1, 1, 1, 1, 1, 1, 1, 1, 1, 1, 1, 1, 1, 1, 1, 1, 1, 1, 1, 1, 1] ∧ OE g3 Try.f3 [0, 0, 1, 1, 1, 1, 1, 1, 1, 1, 1, 1, 1, 1, 1, 1, 1, 1, 1, 1, 1, 1, 1, 1] ∧ OE g3 Try.f3 [0, 0, 1, 0, 1, 1, 1, 1, 1, 1, 1, 1, 1, 1, 1, 1, 1, 1, 1, 1, 1, 1, 1, 1, 1, 1] ∧ OE g3 Try.f3 [0, 0, 1, 1, 1, 1, 1, 1, 1, 1, 1, 1, 1, 1, 1, 1, 1, 1, 1, 1, 1, 1, 1, 1, 1] ∧ OE g3 Try.f3 [0, 0, 1, 0, 1, 1, 1, 1, 1, 1, 1, 1, 1, 1, 1, 1, 1, 1, 1, 1, 1, 1, 1, 1, 1, 1, 1] ∧ OE g3 Try.f3 [0, 1, 1, 1, 1, 1, 1, 1, 1, 1, 1, 1, 1, 1, 1, 1, 1, 1, 1, 1, 1, 1, 1, 1, 1] := ⟨oe_eq _ _, oe_eq _ _, oe_eq _ _, oe_eq _ _, oe_eq _ _, oe_eq _ _, oe_eq _ _, oe_eq _ _, oe_eq _ _, oe_eq _ _, oe_eq _ _, oe_eq _ _, oe_eq _ _, oe_eq _ _, oe_eq _ _, oe_eq _ _, oe_eq _ _, oe_eq _ _, oe_eq _ _, oe_eq _ _, oe_eq _ _, oe_eq _ _, oe_eq _ _, oe_eq _ _, oe_eq _ _, oe_eq _ _, oe_eq _ _, oe_eq _ _, oe_eq _ _, oe_eq _ _, oe_eq _ _, oe_eq _ _, oe_eq _ _, oe_eq _ _⟩
theorem o30 : OE g30 Try.f30 [0] ∧ OE g30 Try.f30 [0, 0, 1] ∧ OE g30 Try.f30 [0, 0, 0, 0, 1, 0, 1] ∧ OE g30 Try.f30 [0, 0, 0, 0, 1, 0, 0, 1, 0, 1] ∧ OE g30 Try.f30 [0, 0, 1, 0, 0, 0, 1, 0, 0, 1, 0, 1] ∧ OE g30 Try.f30 [1, 0, 0, 1, 0, 0, 1, 0, 1] ∧ OE g30 Try.f30 [1, 1, 0, 0, 1, 0, 1] ∧ OE g30 Try.f30 [0, 1, 1] := ⟨oe_eq _ _, oe_eq _ _, oe_eq _ _, oe_eq _ _, oe_eq _ _, oe_eq _ _, oe_eq _ _, oe_eq _ _⟩
theorem o30_10100 : OE g30 Try.f30 [0, 0, 0, 0, 1, 0, 1] ∧ OE g30 Try.f30 [0, 0, 0, 0, 1, 0, 0, 1, 0, 1] ∧ OE g30 Try.f30 [0, 0, 1, 0, 0, 0, 1, 0, 0, 1, 0, 1] ∧ OE g30 Try.f30 [1, 0, 0, 1, 0, 0, 1, 0, 1] ∧ OE g30 Try.f30 [1, 1, 0, 0, 1, 0, 1] := ⟨oe_eq _ _, oe_eq _ _, oe_eq _ _, oe_eq _ _, oe_eq _ _⟩
theorem o31 : OE g31 Try.f31 [0] ∧ OE g31 Try.f31 [0, 1] ∧ OE g31 Try.f31 [0, 0, 1, 1] ∧ OE g31 Try.f31 [0, 0, 1, 0, 1, 1] ∧ OE g31 Try.f31 [0, 1, 1, 1] ∧ OE g31 Try.f31 [0, 0, 1, 1, 1, 1] ∧ OE g31 Try.f31 [0, 0, 1, 0, 1, 1, 1, 1] ∧ OE g31 Try.f31 [0, 1, 1, 1, 1, 1] := ⟨oe_eq _ _, oe_eq _ _, oe_eq _ _, oe_eq _ _, oe_eq _ _, oe_eq _ _, oe_eq _ _, oe_eq _ _⟩
theorem o32 : OE g32 Try.f32 [0] ∧ OE g32 Try.f32 [0, 0, 1] ∧ OE g32 Try.f32 [0, 0, 0, 0, 1, 0, 1] ∧ OE g32 Try.f32 [0, 0, 0, 1, 0, 0, 1, 0, 1] ∧ OE g32 Try.f32 [0, 0, 1, 0, 0, 1, 0, 0, 1, 0, 1] ∧ OE g32 Try.f32 [0, 0, 1, 0, 1, 0, 0, 1, 0, 0, 1, 0, 1] ∧ OE g32 Try.f32 [0, 0, 1, 1, 0, 0, 1, 0, 0, 1, 0, 1] ∧ OE g32 Try.f32 [0, 0, 1, 0, 1, 1, 0, 0, 1, 0, 0, 1, 0, 1] ∧ OE g32 Try.f32 [0, 1, 1, 1, 0, 0, 1, 0, 0, 1, 0, 1] ∧ OE g32 Try.f32 [0, 0, 1, 1, 1, 1, 0, 0, 1, 0, 0, 1, 0, 1] ∧ OE g32 Try.f32 [0, 0, 1, 0, 1, 1, 1, 1, 0, 0, 1, 0, 0, 1, 0, 1] ∧ OE g32 Try.f32 [0, 1, 1, 1, 1, 1, 0, 0, 1, 0, 0, 1, 0, 1] ∧ OE g32 Try.f32 [0, 0, 1, 1, 1, 1, 1, 1, 0, 0, 1, 0, 0, 1, 0, 1] ∧ OE g32 Try.f32 [0, 0, 1, 0, 1, 1, 1, 1, 1, 1, 0, 0, 1, 0, 0, 1, 0, 1] ∧ OE g32 Try.f32 [0, 1, 1, 1, 1, 1, 1, 1, 0, 0, 1, 0, 0, 1, 0, 1] ∧ OE g32 Try.f32 [0, 1, 1, 1, 1, 1, 1, 1, 1, 0, 0, 1, 0, 0, 1, 0, 1] ∧ OE g32 Try.f32 [0, 0, 1, 1, 1, 1, 1, 1, 1, 1, 1, 0, 0, 1, 0, 0, 1, 0, 1] ∧ OE g32 Try.f32 [0, 0, 1, 0, 1, 1, 1, 1, 1, 1, 1, 1, 1, 0, 0, 1, 0, 0, 1, 0, 1] ∧ OE g32 Try.f32 [0, 1, 1, 1, 1, 1, 1, 1, 1, 1, 1, 0, 0, 1, 0, 0, 1, 0, 1] ∧ OE g32 Try.f32 [0, 0, 1, 1, 1, 1, 1, 1, 1, 1, 1, 1, 1, 0, 0, 1, 0, 0, 1, 0, 1] ∧ OE g32 Try.f32 [0, 0, 1, 0, 1, 1, 1, 1, 1, 1, 1, 1, 1, 1, 1, 0, 0, 1, 0, 0, 1, 0, 1] ∧ OE g32 Try.f32 [0, 0, 1, 1, 1, 1, 1, 1, 1, 1, 1, 1, 1, 1, 0, 0, 1, 0, 0, 1, 0, 1] ∧ OE g32 Try.f32 [0, 0, 1, 0, 1, 1, 1, 1, 1, 1, 1, 1, 1, 1, 1, 1, 0, 0, 1, 0, 0, 1, 0, 1] ∧ OE g32 Try.f32 [1, 1, 1, 1, 1, 1, 1, 1, 1, 1, 1, 1, 1, 0, 0, 1, 0, 0, 1, 0, 1] ∧ OE g32 Try.f32 [1, 1, 0, 0, 1, 0, 1] ∧ OE g32 Try.f32 [0, 1, 1] := ⟨oe_eq _ _, oe_eq _ _, oe_eq _ _, oe_eq _ _, oe_eq _ _, oe_eq _ _, oe_eq _ _, oe_eq _ _, oe_eq _ _, oe_eq _ _, oe_eq _ _, oe_eq _ _, oe_eq _ _, oe_eq _ _, oe_eq _ _, oe_eq _ _, oe_eq _ _, oe_eq _ _, oe_eq _ _, oe_eq _ _, oe_eq _ _, oe_eq _ _, oe_eq _ _, oe_eq _ _, oe_eq _ _, oe_eq _ _⟩
theorem o32_10100 : OE g32 Try.f32 [0, 0, 0, 0, 1, 0, 1] ∧ OE g32 Try.f32 [0, 0, 0, 1, 0, 0, 1, 0, 1] ∧ OE g32 Try.f32 [0, 0, 1, 0, 0, 1, 0, 0, 1, 0, 1] ∧ OE g32 Try.f32 [0, 0, 1, 0, 1, 0, 0, 1, 0, 0, 1, 0, 1] ∧ OE g32 Try.f32 [0, 0, 1, 1, 0, 0, 1, 0, 0, 1, 0, 1] ∧ OE g32 Try.f32 [0, 0, 1, 0, 1, 1, 0, 0, 1, 0, 0, 1, 0, 1] ∧ OE g32 Try.f32 [0, 1, 1, 1, 0, 0, 1, 0, 0, 1, 0, 1] ∧ OE g32 Try.f32 [0, 0, 1, 1, 1, 1, 0, 0, 1, 0, 0, 1, 0, 1] ∧ OE g32 Try.f32 [0, 0, 1, 0, 1, 1, 1, 1, 0, 0, 1, 0, 0, 1, 0, 1] ∧ OE g32 Try.f32 [0, 1, 1, 1, 1, 1, 0, 0, 1, 0, 0, 1, 0, 1] ∧ OE g32 Try.f32 [0, 0, 1, 1, 1, 1, 1, 1, 0, 0, 1, 0, 0, 1, 0, 1] ∧ OE g32 Try.f32 [0, 0, 1, 0, 1, 1, 1, 1, 1, 1, 0, 0, 1, 0, 0, 1, 0, 1] ∧ OE g32 Try.f32 [0, 1, 1, 1, 1, 1, 1, 1, 0, 0, 1, 0, 0, 1, 0, 1] ∧ OE g32 Try.f32 [0, 1, 1, 1, 1, 1, 1, 1, 1, 0, 0, 1, 0, 0, 1, 0, 1] ∧ OE g32 Try.f32 [0, 0, 1, 1, 1, 1, 1, 1, 1, 1, 1, 0, 0, 1, 0, 0, 1, 0, 1] ∧ OE g32 Try.f32 [0, 0, 1, 0, 1, 1, 1, 1, 1, 1, 1, 1, 1, 0, 0, 1, 0, 0, 1, 0, 1] ∧ OE g32 Try.f32 [0, 1, 1, 1, 1, 1, 1, 1, 1, 1, 1, 0, 0, 1, 0, 0, 1, 0, 1] ∧ OE g32 Try.f32 [0, 0, 1, 1, 1, 1, 1, 1, 1, 1, 1, 1, 1, 0, 0, 1, 0, 0, 1, 0, 1] ∧ OE g32 Try.f32 [0, 0, 1, 0, 1, 1, 1, 1, 1, 1, 1, 1, 1, 1, 1, 0, 0, 1, 0, 0, 1, 0, 1] ∧ OE g32 Try.f32 [0, 0, 1, 1, 1, 1, 1, 1, 1, 1, 1, 1, 1, 1, 0, 0, 1, 0, 0, 1, 0, 1] ∧ OE g32 Try.f32 [0, 0, 1, 0, 1, 1, 1, 1, 1, 1, 1, 1, 1, 1, 1, 1, 0, 0, 1, 0, 0, 1, 0, 1] ∧ OE g32 Try.f32 [1, 1, 1, 1, 1, 1, 1, 1, 1, 1, 1, 1, 1, 0, 0, 1, 0, 0, 1, 0, 1] ∧ OE g32 Try.f32 [1, 1, 0, 0, 1, 0, 1] := ⟨oe_eq _ _, oe_eq _ _, oe_eq _ _, oe_eq _ _, oe_eq _ _, oe_eq _ _, oe_eq _ _, oe_eq _ _, oe_eq _ _, oe_eq _ _, oe_eq _ _, oe_eq _ _, oe_eq _ _, oe_eq _ _, oe_eq _ _, oe_eq _ _, oe_eq _ _, oe_eq _ _, oe_eq _ _, oe_eq _ _, oe_eq _ _, oe_eq _ _, oe_eq _ _⟩
theorem o33 : OE g33 Try.f33 [0] ∧ OE g33 Try.f33 [0, 1] ∧ OE g33 Try.f33 [0, 0, 1, 1] ∧ OE g33 Try.f33 [0, 0, 1, 0, 1, 1] ∧ OE g33 Try.f33 [0, 1, 1, 1] := ⟨oe_eq _ _, oe_eq _ _, oe_eq _ _, oe_eq _ _, oe_eq _ _⟩
theorem o34 : OE g34 Try.f34 [0] ∧ OE g34 Try.f34 [0, 1] ∧ OE g34 Try.f34 [0, 0, 1, 1] ∧ OE g34 Try.f34 [0, 0, 1, 0, 1, 1] ∧ OE g34 Try.f34 [0, 0, 1, 1, 1] ∧ OE g34 Try.f34 [0, 0, 0, 0, 1, 0, 1, 1, 1] ∧ OE g34 Try.f34 [0, 0, 0, 1, 0, 0, 1, 0, 1, 1, 1] ∧ OE g34 Try.f34 [0, 1, 0, 0, 1, 0, 0, 1, 0, 1, 1, 1] ∧ OE g34 Try.f34 [0, 0, 1, 1, 0, 0, 1, 0, 0, 1, 0, 1, 1, 1] ∧ OE g34 Try.f34 [1, 1, 0, 0, 1, 0, 1, 1, 1] ∧ OE g34 Try.f34 [0, 1, 1, 1, 1] := ⟨oe_eq _ _, oe_eq _ _, oe_eq _ _, oe_eq _ _, oe_eq _ _, oe_eq _ _, oe_eq _ _, oe_eq _ _, oe_eq _ _, oe_eq _ _, oe_eq _ _⟩
theorem o34_1110100 : OE g34 Try.f34 [0, 0, 0, 0, 1, 0, 1, 1, 1] ∧ OE g34 Try.f34 [0, 0, 0, 1, 0, 0, 1, 0, 1, 1, 1] ∧ OE g34 Try.f34 [0, 1, 0, 0, 1, 0, 0, 1, 0, 1, 1, 1] ∧ OE g34 Try.f34 [0, 0, 1, 1, 0, 0, 1, 0, 0, 1, 0, 1, 1, 1] ∧ OE g34 Try.f34 [1, 1, 0, 0, 1, 0, 1, 1, 1] := ⟨oe_eq _ _, oe_eq _ _, oe_eq _ _, oe_eq _ _, oe_eq _ _⟩
theorem o35 : OE g35 Try.f35 [0] ∧ OE g35 Try.f35 [0, 1] ∧ OE g35 Try.f35 [0, 0, 1, 1] ∧ OE g35 Try.f35 [0, 0, 1, 0, 1, 1] ∧ OE g35 Try.f35 [0, 0, 1, 1, 1] ∧ OE g35 Try.f35 [0, 0, 0, 0, 1, 0, 1, 1, 1] ∧ OE g35 Try.f35 [0, 0, 0, 1, 0, 0, 1, 0, 1, 1, 1] ∧ OE g35 Try.f35 [0, 1, 0, 0, 1, 0, 0, 1, 0, 1, 1, 1] ∧ OE g35 Try.f35 [0, 0, 1, 1, 0, 0, 1, 0, 0, 1, 0, 1, 1, 1] ∧ OE g35 Try.f35 [1, 1, 0, 0, 1, 0, 1, 1, 1] ∧ OE g35 Try.f35 [0, 1, 1, 1, 1] := ⟨oe_eq _ _, oe_eq _ _, oe_eq _ _, oe_eq _ _, oe_eq _ _, oe_eq _ _, oe_eq _ _, oe_eq _ _, oe_eq _ _, oe_eq _ _, oe_eq _ _⟩
theorem o35_1110100 : OE g35 Try.f35 [0, 0, 0, 0, 1, 0, 1, 1, 1] ∧ OE g35 Try.f35 [0, 0, 0, 1, 0, 0, 1, 0, 1, 1, 1] ∧ OE g35 Try.f35 [0, 1, 0, 0, 1, 0, 0, 1, 0, 1, 1, 1] ∧ OE g35 Try.f35 [0, 0, 1, 1, 0, 0, 1, 0, 0, 1, 0, 1, 1, 1] ∧ OE g35 Try.f35 [1, 1, 0, 0, 1, 0, 1, 1, 1] := ⟨oe_eq _ _, oe_eq _ _, oe_eq _ _, oe_eq _ _, oe_eq _ _⟩
theorem o36 : OE g36 Try.f36 [0] ∧ OE g36 Try.f36 [0, 1] ∧ OE g36 Try.f36 [0, 0, 1, 1] ∧ OE g36 Try.f36 [0, 0, 1, 0, 1, 1] ∧ OE g36 Try.f36 [0, 1, 1, 1] ∧ OE g36 Try.f36 [0, 0, 1, 1, 1, 1] ∧ OE g36 Try.f36 [0, 0, 1, 0, 1, 1, 1, 1] ∧ OE g36 Try.f36 [0, 1, 1, 1, 1, 1] := ⟨oe_eq _ _, oe_eq _ _, oe_eq _ _, oe_eq _ _, oe_eq _ _, oe_eq _ _, oe_eq _ _, oe_eq _ _⟩
theorem o37 : OE g37 Try.f37 [0] ∧ OE g37 Try.f37 [0, 1] := ⟨oe_eq _ _, oe_eq _ _⟩
theorem o38 : OE g38 Try.f38 [0] ∧ OE g38 Try.f38 [0, 1] ∧ OE g38 Try.f38 [0, 0, 1, 1] ∧ OE g38 Try.f38 [0, 0, 0, 0, 1, 0, 1, 1] ∧ OE g38 Try.f38 [0, 0, 1, 0, 0, 1, 0, 1, 1] ∧ OE g38 Try.f38 [1, 1, 0, 0, 1, 0, 1, 1] ∧ OE g38 Try.f38 [0, 1, 1, 1] := ⟨oe_eq _ _, oe_eq _ _, oe_eq _ _, oe_eq _ _, oe_eq _ _, oe_eq _ _, oe_eq _ _⟩
theorem o38_110100 : OE g38 Try.f38 [0, 0, 0, 0, 1, 0, 1, 1] ∧ OE g38 Try.f38 [0, 0, 1, 0, 0, 1, 0, 1, 1] ∧ OE g38 Try.f38 [1, 1, 0, 0, 1, 0, 1, 1] := ⟨oe_eq _ _, oe_eq _ _, oe_eq _ _⟩
theorem o39 : OE g39 Try.f39 [0] ∧ OE g39 Try.f39 [0, 1] ∧ OE g39 Try.f39 [0, 0, 1, 1] ∧ OE g39 Try.f39 [0, 0, 0, 0, 1, 0, 1, 1] ∧ OE g39 Try.f39 [0, 0, 1, 0, 0, 1, 0, 1, 1] ∧ OE g39 Try.f39 [1, 1, 0, 0, 1, 0, 1, 1] ∧ OE g39 Try.f39 [0, 1, 1, 1] := ⟨oe_eq _ _, oe_eq _ _, oe_eq _ _, oe_eq _ _, oe_eq _ _, oe_eq _ _, oe_eq _ _⟩
theorem o39_110100 : OE g39 Try.f39 [0, 0, 0, 0, 1, 0, 1, 1] ∧ OE g39 Try.f39 [0, 0, 1, 0, 0, 1, 0, 1, 1] ∧ OE g39 Try.f39 [1, 1, 0, 0, 1, 0, 1, 1] := ⟨oe_eq _ _, oe_eq _ _, oe_eq _ _⟩
theorem o4 : OE g4 Try.f4 [0] ∧ OE g4 Try.f4 [0, 1] ∧ OE g4 Try.f4 [0, 0, 1, 1] ∧ OE g4 Try.f4 [0, 0, 1, 0, 1, 1] ∧ OE g4 Try.f4 [0, 1, 1, 1] ∧ OE g4 Try.f4 [0, 0, 1, 1, 1, 1] ∧ OE g4 Try.f4 [0, 0, 1, 0, 1, 1, 1, 1] ∧ OE g4 Try.f4 [0, 1, 1, 1, 1, 1] ∧ OE g4 Try.f4 [0, 0, 1, 1, 1, 1, 1, 1] ∧ OE g4 Try.f4 [0, 0, 1, 0, 1, 1, 1, 1, 1, 1] ∧ OE g4 Try.f4 [0, 1, 1, 1, 1, 1, 1, 1] ∧ OE g4 Try.f4 [0, 0, 1, 1, 1, 1, 1, 1, 1, 1] ∧ OE g4 Try.f4 [0, 0, 1, 0, 1, 1, 1, 1, 1, 1, 1, 1] ∧ OE g4 Try.f4 [0, 1, 1, 1, 1, 1, 1, 1, 1, 1] ∧ OE g4 Try.f4 [0, 0, 1, 1, 1, 1, 1, 1, 1, 1, 1, 1] ∧ OE g4 Try.f4 [0, 0, 1, 0, 1, 1, 1, 1, 1, 1, 1, 1, 1, 1] ∧ OE g4 Try.f4 [0, 1, 1, 1, 1, 1, 1, 1, 1, 1, 1, 1] := ⟨oe_eq _ _, oe_eq _ _, oe_eq _ _, oe_eq _ _, oe_eq _ _, oe_eq _ _, oe_eq _ _, oe_eq _ _, oe_eq _ _, oe_eq _ _, oe_eq _ _, oe_eq _ _, oe_eq _ _, oe_eq _ _, oe_eq _ _, oe_eq _ _, oe_eq _ _⟩
theorem o40 : OE g40 Try.f40 [0] ∧ OE g40 Try.f40 [0, 1] ∧ OE g40 Try.f40 [0, 0, 1, 1] ∧ OE g40 Try.f40 [0, 0, 0, 0, 1, 0, 1, 1] ∧ OE g40 Try.f40 [0, 0, 1, 0, 0, 1, 0, 1, 1] ∧ OE g40 Try.f40 [1, 1, 0, 0, 1, 0, 1, 1] ∧ OE g40 Try.f40 [0, 1, 1, 1] := ⟨oe_eq _ _, oe_eq _ _, oe_eq _ _, oe_eq _ _, oe_eq _ _, oe_eq _ _, oe_eq _ _⟩
theorem o40_110100 : OE g40 Try.f40 [0, 0, 0, 0, 1, 0, 1, 1] ∧ OE g40 Try.f40 [0, 0, 1, 0, 0, 1, 0, 1, 1] ∧ OE g40 Try.f40 [1, 1, 0, 0, 1, 0, 1, 1] := ⟨oe_eq _ _, oe_eq _ _, oe_eq _ _⟩
theorem o41 : OE g41 Try.f41 [0] ∧ OE g41 Try.f41 [0, 1] ∧ OE g41 Try.f41 [0, 1, 1] ∧ OE g41 Try.f41 [0, 1, 1, 1] ∧ OE g41 Try.f41 [0, 1, 1, 1, 1] ∧ OE g41 Try.f41 [0, 1, 1, 1, 1, 1] ∧ OE g41 Try.f41 [0, 1, 1, 1, 1, 1, 1] ∧ OE g41 Try.f41 [0, 1, 1, 1, 1, 1, 1, 1] := ⟨oe_eq _ _, oe_eq _ _, oe_eq _ _, oe_eq _ _, oe_eq _ _, oe_eq _ _, oe_eq _ _, oe_eq _ _⟩
theorem o42 : OE g42 Try.f42 [0] ∧ OE g42 Try.f42 [0, 1] ∧ OE g42 Try.f42 [0, 1, 1] := ⟨oe_eq _ _, oe_eq _ _, oe_eq _ _⟩
theorem o43 : OE g43 Try.f43 [0] ∧ OE g43 Try.f43 [0, 1] := ⟨oe_eq _ _, oe_eq _ _⟩
theorem o44 : OE g44 Try.f44 [0] ∧ OE g44 Try.f44 [0, 1] ∧ OE g44 Try.f44 [0, 1, 1] := ⟨oe_eq _ _, oe_eq _ _, oe_eq _ _⟩
theorem o45 : OE g45 Try.f45 [0] ∧ OE g45 Try.f45 [0, 0, 1] ∧ OE g45 Try.f45 [0, 0, 1, 0, 1] ∧ OE g45 Try.f45 [0, 0, 1, 1] ∧ OE g45 Try.f45 [0, 0, 0, 0, 1, 0, 1, 1] ∧ OE g45 Try.f45 [0, 0, 0, 1, 0, 0, 1, 0, 1, 1] ∧ OE g45 Try.f45 [0, 0, 1, 0, 0, 1, 0, 0, 1, 0, 1, 1] ∧ OE g45 Try.f45 [1, 1, 0, 0, 1, 0, 1, 1] ∧ OE g45 Try.f45 [0, 1, 1, 1] := ⟨oe_eq _ _, oe_eq _ _, oe_eq _ _, oe_eq _ _, oe_eq _ _, oe_eq _ _, oe_eq _ _, oe_eq _ _, oe_eq _ _⟩
theorem o45_110100 : OE g45 Try.f45 [0, 0, 0, 0, 1, 0, 1, 1] ∧ OE g45 Try.f45 [0, 0, 0, 1, 0, 0, 1, 0, 1, 1] ∧ OE g45 Try.f45 [0, 0, 1, 0, 0, 1, 0, 0, 1, 0, 1, 1] ∧ OE g45 Try.f45 [1, 1, 0, 0, 1, 0, 1, 1] := ⟨oe_eq _ _, oe_eq _ _, oe_eq _ _, oe_eq _ _⟩
theorem o46 : OE g46 Try.f46 [0] ∧ OE g46 Try.f46 [0, 0, 1] ∧ OE g46 Try.f46 [0, 0, 1, 0, 1] ∧ OE g46 Try.f46 [0, 0, 1, 1] ∧ OE g46 Try.f46 [0, 0, 0, 0, 1, 0, 1, 1] ∧ OE g46 Try.f46 [0, 0, 0, 1, 0, 0, 1, 0, 1, 1] ∧ OE g46 Try.f46 [0, 0, 1, 0, 0, 1, 0, 0, 1, 0, 1, 1] ∧ OE g46 Try.f46 [1, 1, 0, 0, 1, 0, 1, 1] ∧ OE g46 Try.f46 [0, 1, 1, 1] := ⟨oe_eq _ _, oe_eq _ _, oe_eq _ _, oe_eq _ _, oe_eq _ _, oe_eq _ _, oe_eq _ _, oe_eq _ _, oe_eq _ _⟩
theorem o46_110100 : OE g46 Try.f46 [0, 0, 0, 0, 1, 0, 1, 1] ∧ OE g46 Try.f46 [0, 0, 0, 1, 0, 0, 1, 0, 1, 1] ∧ OE g46 Try.f46 [0, 0, 1, 0, 0, 1, 0, 0, 1, 0, 1, 1] ∧ OE g46 Try.f46 [1, 1, 0, 0, 1, 0, 1, 1] := ⟨oe_eq _ _, oe_eq _ _, oe_eq _ _, oe_eq _ _⟩
theorem o47 : OE g47 Try.f47 [0] ∧ OE g47 Try.f47 [0, 0, 1] ∧ OE g47 Try.f47 [0, 0, 1, 0, 1] ∧ OE g47 Try.f47 [0, 0, 1, 1] ∧ OE g47 Try.f47 [0, 0, 0, 0, 1, 0, 1, 1] ∧ OE g47 Try.f47 [0, 0, 0, 1, 0, 0, 1, 0, 1, 1] ∧ OE g47 Try.f47 [0, 0, 1, 0, 0, 1, 0, 0, 1, 0, 1, 1] ∧ OE g47 Try.f47 [1, 1, 0, 0, 1, 0, 1, 1] ∧ OE g47 Try.f47 [0, 1, 1, 1] := ⟨oe_eq _ _, oe_eq _ _, oe_eq _ _, oe_eq _ _, oe_eq _ _, oe_eq _ _, oe_eq _ _, oe_eq _ _, oe_eq _ _⟩
theorem o47_110100 : OE g47 Try.f47 [0, 0, 0, 0, 1, 0, 1, 1] ∧ OE g47 Try.f47 [0, 0, 0, 1, 0, 0, 1, 0, 1, 1] ∧ OE g47 Try.f47 [0, 0, 1, 0, 0, 1, 0, 0, 1, 0, 1, 1] ∧ OE g47 Try.f47 [1, 1, 0, 0, 1, 0, 1, 1] := ⟨oe_eq _ _, oe_eq _ _, oe_eq _ _, oe_eq _ _⟩
theorem o48 : OE g48 Try.f48 [0] ∧ OE g48 Try.f48 [0, 0, 1] ∧ OE g48 Try.f48 [0, 0, 1, 0, 1] ∧ OE g48 Try.f48 [0, 0, 1, 1] ∧ OE g48 Try.f48 [0, 0, 1, 0, 1, 1] ∧ OE g48 Try.f48 [0, 0, 1, 1, 1] ∧ OE g48 Try.f48 [0, 0, 1, 0, 1, 1, 1] ∧ OE g48 Try.f48 [0, 0, 1, 1, 1, 1] ∧ OE g48 Try.f48 [0, 0, 1, 0, 1, 1, 1, 1] ∧ OE g48 Try.f48 [0, 0, 1, 1, 1, 1, 1] ∧ OE g48 Try.f48 [0, 0, 1, 0, 1, 1, 1, 1, 1] ∧ OE g48 Try.f48 [0, 1, 1, 1, 1, 1, 1] := ⟨oe_eq _ _, oe_eq _ _, oe_eq _ _, oe_eq _ _, oe_eq _ _, oe_eq _ _, oe_eq _ _, oe_eq _ _, oe_eq _ _, oe_eq _ _, oe_eq _ _, oe_eq _ _⟩
theorem o49 : OE g49 Try.f49 [0] ∧ OE g49 Try.f49 [0, 0, 1] ∧ OE g49 Try.f49 [0, 0, 0, 0, 1, 0, 1] ∧ OE g49 Try.f49 [0, 0, 0, 1, 0, 0, 1, 0, 1] ∧ OE g49 Try.f49 [0, 1, 0, 0, 1, 0, 0, 1, 0, 1] ∧ OE g49 Try.f49 [0, 1, 1, 0, 0, 1, 0, 0, 1, 0, 1] ∧ OE g49 Try.f49 [1, 1, 1, 0, 0, 1, 0, 0, 1, 0, 1] ∧ OE g49 Try.f49 [1, 1, 0, 0, 1, 0, 1] ∧ OE g49 Try.f49 [0, 1, 1] := ⟨oe_eq _ _, oe_eq _ _, oe_eq _ _, oe_eq _ _, oe_eq _ _, oe_eq _ _, oe_eq _ _, oe_eq _ _, oe_eq _ _⟩
theorem o49_10100 : OE g49 Try.f49 [0, 0, 0, 0, 1, 0, 1] ∧ OE g49 Try.f49 [0, 0, 0, 1, 0, 0, 1, 0, 1] ∧ OE g49 Try.f49 [0, 1, 0, 0, 1, 0, 0, 1, 0, 1] ∧ OE g49 Try.f49 [0, 1, 1, 0, 0, 1, 0, 0, 1, 0, 1] ∧ OE g49 Try.f49 [1, 1, 1, 0, 0, 1, 0, 0, 1, 0, 1] ∧ OE g49 Try.f49 [1, 1, 0, 0, 1, 0, 1] := ⟨oe_eq _ _, oe_eq _ _, oe_eq _ _, oe_eq _ _, oe_eq _ _, oe_eq _ _⟩
theorem o5 : OE g5 Try.f5 [0] ∧ OE g5 Try.f5 [0, 1] ∧ OE g5 Try.f5 [0, 1, 1] ∧ OE g5 Try.f5 [0, 0, 1, 1, 1] ∧ OE g5 Try.f5 [0, 1, 0, 1, 1, 1] ∧ OE g5 Try.f5 [0, 1, 1, 1, 1] ∧ OE g5 Try.f5 [0, 1, 1, 1, 1, 1] := ⟨oe_eq _ _, oe_eq _ _, oe_eq _ _, oe_eq _ _, oe_eq _ _, oe_eq _ _, oe_eq _ _⟩
theorem o50 : OE g50 Try.f50 [0] ∧ OE g50 Try.f50 [0, 0, 1] ∧ OE g50 Try.f50 [0, 0, 1, 0, 1] ∧ OE g50 Try.f50 [0, 1, 1] ∧ OE g50 Try.f50 [0, 0, 0, 0, 0, 1, 1, 1] ∧ OE g50 Try.f50 [0, 0, 1, 0, 0, 0, 1, 1, 1] ∧ OE g50 Try.f50 [1, 0, 1, 0, 0, 0, 1, 1, 1] ∧ OE g50 Try.f50 [0, 1, 1, 1, 1] := ⟨oe_eq _ _, oe_eq _ _, oe_eq _ _, oe_eq _ _, oe_eq _ _, oe_eq _ _, oe_eq _ _, oe_eq _ _⟩
theorem o50_111000 : OE g50 Try.f50 [0, 0, 0, 0, 0, 1, 1, 1] ∧ OE g50 Try.f50 [0, 0, 1, 0, 0, 0, 1, 1, 1] ∧ OE g50 Try.f50 [1, 0, 1, 0, 0, 0, 1, 1, 1] := ⟨oe_eq _ _, oe_eq _ _, oe_eq _ _⟩
theorem o51 : OE g51 Try.f51 [0] ∧ OE g51 Try.f51 [0, 0, 1] ∧ OE g51 Try.f51 [0, 0, 0, 0, 1, 0, 1] ∧ OE g51 Try.f51 [0, 0, 0, 1, 0, 0, 1, 0, 1] ∧ OE g51 Try.f51 [0, 1, 0, 0, 1, 0, 0, 1, 0, 1] ∧ OE g51 Try.f51 [0, 1, 1, 0, 0, 1, 0, 0, 1, 0, 1] ∧ OE g51 Try.f51 [1, 1, 1, 0, 0, 1, 0, 0, 1, 0, 1] ∧ OE g51 Try.f51 [1, 1, 0, 0, 1, 0, 1] ∧ OE g51 Try.f51 [0, 1, 1] := ⟨oe_eq _ _, oe_eq _ _, oe_eq _ _, oe_eq _ _, oe_eq _ _, oe_eq _ _, oe_eq _ _, oe_eq _ _, oe_eq _ _⟩
theorem o51_10100 : OE g51 Try.f51 [0, 0, 0, 0, 1, 0, 1] ∧ OE g51 Try.f51 [0, 0, 0, 1, 0, 0, 1, 0, 1] ∧ OE g51 Try.f51 [0, 1, 0, 0, 1, 0, 0, 1, 0, 1] ∧ OE g51 Try.f51 [0, 1, 1, 0, 0, 1, 0, 0, 1, 0, 1] ∧ OE g51 Try.f51 [1, 1, 1, 0, 0, 1, 0, 0, 1, 0, 1] ∧ OE g51 Try.f51 [1, 1, 0, 0, 1, 0, 1] := ⟨oe_eq _ _, oe_eq _ _, oe_eq _ _, oe_eq _ _, oe_eq _ _, oe_eq _ _⟩
theorem o52 : OE g52 Try.f52 [0] ∧ OE g52 Try.f52 [0, 0, 1] ∧ OE g52 Try.f52 [0, 0, 0, 0, 1, 0, 1] ∧ OE g52 Try.f52 [0, 0, 0, 1, 0, 0, 1, 0, 1] ∧ OE g52 Try.f52 [0, 1, 0, 0, 1, 0, 0, 1, 0, 1] ∧ OE g52 Try.f52 [0, 1, 1, 0, 0, 1, 0, 0, 1, 0, 1] ∧ OE g52 Try.f52 [0, 1, 1, 1, 0, 0, 1, 0, 0, 1, 0, 1] ∧ OE g52 Try.f52 [0, 1, 1, 1, 1, 0, 0, 1, 0, 0, 1, 0, 1] ∧ OE g52 Try.f52 [1, 1, 1, 1, 1, 0, 0, 1, 0, 0, 1, 0, 1] ∧ OE g52 Try.f52 [1, 1, 0, 0, 1, 0, 1] ∧ OE g52 Try.f52 [0, 1, 1] := ⟨oe_eq _ _, oe_eq _ _, oe_eq _ _, oe_eq _ _, oe_eq _ _, oe_eq _ _, oe_eq _ _, oe_eq _ _, oe_eq _ _, oe_eq _ _, oe_eq _ _⟩
theorem o52_10100 : OE g52 Try.f52 [0, 0, 0, 0, 1, 0, 1] ∧ OE g52 Try.f52 [0, 0, 0, 1, 0, 0, 1, 0, 1] ∧ OE g52 Try.f52 [0, 1, 0, 0, 1, 0, 0, 1, 0, 1] ∧ OE g52 Try.f52 [0, 1, 1, 0, 0, 1, 0, 0, 1, 0, 1] ∧ OE g52 Try.f52 [0, 1, 1, 1, 0, 0, 1, 0, 0, 1, 0, 1] ∧ OE g52 Try.f52 [0, 1, 1, 1, 1, 0, 0, 1, 0, 0, 1, 0, 1] ∧ OE g52 Try.f52 [1, 1, 1, 1, 1, 0, 0, 1, 0, 0, 1, 0, 1] ∧ OE g52 Try.f52 [1, 1, 0, 0, 1, 0, 1] := ⟨oe_eq _ _, oe_eq _ _, oe_eq _ _, oe_eq _ _, oe_eq _ _, oe_eq _ _, oe_eq _ _, oe_eq _ _⟩
theorem o53 : OE g53 Try.f53 [0] ∧ OE g53 Try.f53 [0, 0, 1] ∧ OE g53 Try.f53 [0, 0, 0, 0, 1, 0, 1] ∧ OE g53 Try.f53 [0, 0, 0, 0, 1, 0, 0, 1, 0, 1] ∧ OE g53 Try.f53 [0, 0, 1, 0, 0, 0, 1, 0, 0, 1, 0, 1] ∧ OE g53 Try.f53 [0, 1, 0, 0, 1, 0, 0, 1, 0, 1] ∧ OE g53 Try.f53 [0, 0, 1, 1, 0, 0, 1, 0, 0, 1, 0, 1] ∧ OE g53 Try.f53 [0, 0, 1, 0, 1, 1, 0, 0, 1, 0, 0, 1, 0, 1] ∧ OE g53 Try.f53 [1, 1, 1, 0, 0, 1, 0, 0, 1, 0, 1] ∧ OE g53 Try.f53 [1, 1, 0, 0, 1, 0, 1] ∧ OE g53 Try.f53 [0, 1, 1] := ⟨oe_eq _ _, oe_eq _ _, oe_eq _ _, oe_eq _ _, oe_eq _ _, oe_eq _ _, oe_eq _ _, oe_eq _ _, oe_eq _ _, oe_eq _ _, oe_eq _ _⟩
theorem o53_10100 : OE g53 Try.f53 [0, 0, 0, 0, 1, 0, 1] ∧ OE g53 Try.f53 [0, 0, 0, 0, 1, 0, 0, 1, 0, 1] ∧ OE g53 Try.f53 [0, 0, 1, 0, 0, 0, 1, 0, 0, 1, 0, 1] ∧ OE g53 Try.f53 [0, 1, 0, 0, 1, 0, 0, 1, 0, 1] ∧ OE g53 Try.f53 [0, 0, 1, 1, 0, 0, 1, 0, 0, 1, 0, 1] ∧ OE g53 Try.f53 [0, 0, 1, 0, 1, 1, 0, 0, 1, 0, 0, 1, 0, 1] ∧ OE g53 Try.f53 [1, 1, 1, 0, 0, 1, 0, 0, 1, 0, 1] ∧ OE g53 Try.f53 [1, 1, 0, 0, 1, 0, 1] := ⟨oe_eq _ _, oe_eq _ _, oe_eq _ _, oe_eq _ _, oe_eq _ _, oe_eq _ _, oe_eq _ _, oe_eq _ _⟩
theorem o54 : OE g54 Try.f54 [0] ∧ OE g54 Try.f54 [0, 0, 1] ∧ OE g54 Try.f54 [0, 0, 0, 0, 1, 0, 1] ∧ OE g54 Try.f54 [0, 0, 0, 0, 1, 0, 0, 1, 0, 1] ∧ OE g54 Try.f54 [0, 0, 1, 0, 0, 0, 1, 0, 0, 1, 0, 1] ∧ OE g54 Try.f54 [0, 1, 0, 0, 1, 0, 0, 1, 0, 1] ∧ OE g54 Try.f54 [0, 0, 1, 1, 0, 0, 1, 0, 0, 1, 0, 1] ∧ OE g54 Try.f54 [0, 0, 1, 0, 1, 1, 0, 0, 1, 0, 0, 1, 0, 1] ∧ OE g54 Try.f54 [1, 1, 1, 0, 0, 1, 0, 0, 1, 0, 1] ∧ OE g54 Try.f54 [1, 1, 0, 0, 1, 0, 1] ∧ OE g54 Try.f54 [0, 1, 1] := ⟨oe_eq _ _, oe_eq _ _, oe_eq _ _, oe_eq _ _, oe_eq _ _, oe_eq _ _, oe_eq _ _, oe_eq _ _, oe_eq _ _, oe_eq _ _, oe_eq _ _⟩
theorem o54_10100 : OE g54 Try.f54 [0, 0, 0, 0, 1, 0, 1] ∧ OE g54 Try.f54 [0, 0, 0, 0, 1, 0, 0, 1, 0, 1] ∧ OE g54 Try.f54 [0, 0, 1, 0, 0, 0, 1, 0, 0, 1, 0, 1] ∧ OE g54 Try.f54 [0, 1, 0, 0, 1, 0, 0, 1, 0, 1] ∧ OE g54 Try.f54 [0, 0, 1, 1, 0, 0, 1, 0, 0, 1, 0, 1] ∧ OE g54 Try.f54 [0, 0, 1, 0, 1, 1, 0, 0, 1, 0, 0, 1, 0, 1] ∧ OE g54 Try.f54 [1, 1, 1, 0, 0, 1, 0, 0, 1, 0, 1] ∧ OE g54 Try.f54 [1, 1, 0, 0, 1, 0, 1] := ⟨oe_eq _ _, oe_eq _ _, oe_eq _ _, oe_eq _ _, oe_eq _ _, oe_eq _ _, oe_eq _ _, oe_eq _ _⟩
theorem o55 : OE g55 Try.f55 [0] ∧ OE g55 Try.f55 [0, 0, 1] ∧ OE g55 Try.f55 [0, 0, 0, 0, 1, 0, 1] ∧ OE g55 Try.f55 [0, 0, 0, 0, 1, 0, 0, 1, 0, 1] ∧ OE g55 Try.f55 [0, 0, 1, 0, 0, 0, 1, 0, 0, 1, 0, 1] ∧ OE g55 Try.f55 [0, 1, 0, 0, 1, 0, 0, 1, 0, 1] ∧ OE g55 Try.f55 [0, 0, 1, 1, 0, 0, 1, 0, 0, 1, 0, 1] ∧ OE g55 Try.f55 [0, 0, 1, 0, 1, 1, 0, 0, 1, 0, 0, 1, 0, 1] ∧ OE g55 Try.f55 [0, 1, 1, 1, 0, 0, 1, 0, 0, 1, 0, 1] ∧ OE g55 Try.f55 [0, 0, 1, 1, 1, 1, 0, 0, 1, 0, 0, 1, 0, 1] ∧ OE g55 Try.f55 [0, 0, 1, 0, 1, 1, 1, 1, 0, 0, 1, 0, 0, 1, 0, 1] ∧ OE g55 Try.f55 [1, 1, 1, 1, 1, 0, 0, 1, 0, 0, 1, 0, 1] ∧ OE g55 Try.f55 [1, 1, 0, 0, 1, 0, 1] ∧ OE g55 Try.f55 [0, 1, 1] := ⟨oe_eq _ _, oe_eq _ _, oe_eq _ _, oe_eq _ _, oe_eq _ _, oe_eq _ _, oe_eq _ _, oe_eq _ _, oe_eq _ _, oe_eq _ _, oe_eq _ _, oe_eq _ _, oe_eq _ _, oe_eq _ _⟩
theorem o55_10100 : OE g55 Try.f55 [0, 0, 0, 0, 1, 0, 1] ∧ OE g55 Try.f55 [0, 0, 0, 0, 1, 0, 0, 1, 0, 1] ∧ OE g55 Try.f55 [0, 0, 1, 0, 0, 0, 1, 0, 0, 1, 0, 1] ∧ OE g55 Try.f55 [0, 1, 0, 0, 1, 0, 0, 1, 0, 1] ∧ OE g55 Try.f55 [0, 0, 1, 1, 0, 0, 1, 0, 0, 1, 0, 1] ∧ OE g55 Try.f55 [0, 0, 1, 0, 1, 1, 0, 0, 1, 0, 0, 1, 0, 1] ∧ OE g55 Try.f55 [0, 1, 1, 1, 0, 0, 1, 0, 0, 1, 0, 1] ∧ OE g55 Try.f55 [0, 0, 1, 1, 1, 1, 0, 0, 1, 0, 0, 1, 0, 1] ∧ OE g55 Try.f55 [0, 0, 1, 0, 1, 1, 1, 1, 0, 0, 1, 0, 0, 1, 0, 1] ∧ OE g55 Try.f55 [1, 1, 1, 1, 1, 0, 0, 1, 0, 0, 1, 0, 1] ∧ OE g55 Try.f55 [1, 1, 0, 0, 1, 0, 1] := ⟨oe_eq _ _, oe_eq _ _, oe_eq _ _, oe_eq _ _, oe_eq _ _, oe_eq _ _, oe_eq _ _, oe_eq _ _, oe_eq _ _, oe_eq _ _, oe_eq _ _⟩
theorem o56 : OE g56 Try.f56 [0] ∧ OE g56 Try.f56 [0, 1] ∧ OE g56 Try.f56 [0, 0, 1, 1] ∧ OE g56 Try.f56 [0, 0, 1, 0, 1, 1] ∧ OE g56 Try.f56 [0, 1, 1, 1] ∧ OE g56 Try.f56 [0, 0, 1, 1, 1, 1] ∧ OE g56 Try.f56 [0, 0, 1, 0, 1, 1, 1, 1] ∧ OE g56 Try.f56 [0, 1, 1, 1, 1, 1] := ⟨oe_eq _ _, oe_eq _ _, oe_eq _ _, oe_eq _ _, oe_eq _ _, oe_eq _ _, oe_eq _ _, oe_eq _ _⟩
theorem o57 : OE g57 Try.f57 [0] ∧ OE g57 Try.f57 [0, 1] ∧ OE g57 Try.f57 [0, 0, 1, 1] ∧ OE g57 Try.f57 [0, 0, 1, 0, 1, 1] ∧ OE g57 Try.f57 [0, 1, 1, 1] ∧ OE g57 Try.f57 [0, 0, 1, 1, 1, 1] ∧ OE g57 Try.f57 [0, 0, 1, 0, 1, 1, 1, 1] ∧ OE g57 Try.f57 [0, 1, 1, 1, 1, 1] ∧ OE g57 Try.f57 [0, 0, 1, 1, 1, 1, 1, 1] ∧ OE g57 Try.f57 [0, 0, 1, 0, 1, 1, 1, 1, 1, 1] ∧ OE g57 Try.f57 [0, 1, 1, 1, 1, 1, 1, 1] := ⟨oe_eq _ _, oe_eq _ _, oe_eq _ _, oe_eq _ _, oe_eq _ _, oe_eq _ _, oe_eq _ _, oe_eq _ _, oe_eq _ _, oe_eq _ _, oe_eq _ _⟩
theorem o58 : OE g58 Try.f58 [0] ∧ OE g58 Try.f58 [0, 1] ∧ OE g58 Try.f58 [0, 1, 1] ∧ OE g58 Try.f58 [0, 1, 1, 1] ∧ OE g58 Try.f58 [0, 1, 1, 1, 1] := ⟨oe_eq _ _, oe_eq _ _, oe_eq _ _, oe_eq _ _, oe_eq _ _⟩
theorem o59 : OE g59 Try.f59 [0] ∧ OE g59 Try.f59 [0, 1] ∧ OE g59 Try.f59 [0, 1, 1] ∧ OE g59 Try.f59 [0, 1, 1, 1] ∧ OE g59 Try.f59 [0, 1, 1, 1, 1] := ⟨oe_eq _ _, oe_eq _ _, oe_eq _ _, oe_eq _ _, oe_eq _ _⟩
theorem o6 : OE g6 Try.f6 [0] ∧ OE g6 Try.f6 [0, 1] ∧ OE g6 Try.f6 [0, 1, 1] ∧ OE g6 Try.f6 [0, 1, 1, 1] ∧ OE g6 Try.f6 [0, 1, 1, 1, 1] ∧ OE g6 Try.f6 [0, 1, 1, 1, 1, 1] ∧ OE g6 Try.f6 [0, 1, 1, 1, 1, 1, 1] ∧ OE g6 Try.f6 [0, 1, 1, 1, 1, 1, 1, 1] ∧ OE g6 Try.f6 [0, 1, 1, 1, 1, 1, 1, 1, 1] ∧ OE g6 Try.f6 [0, 1, 1, 1, 1, 1, 1, 1, 1, 1] ∧ OE g6 Try.f6 [0, 1, 1, 1, 1, 1, 1, 1, 1, 1, 1] ∧ OE g6 Try.f6 [0, 1, 1, 1, 1, 1, 1, 1, 1, 1, 1, 1] := ⟨oe_eq _ _, oe_eq _ _, oe_eq _ _, oe_eq _ _, oe_eq _ _, oe_eq _ _, oe_eq _ _, oe_eq _ _, oe_eq _ _, oe_eq _ _, oe_eq _ _, oe_eq _ _⟩
theorem o60 : OE g60 Try.f60 [0] ∧ OE g60 Try.f60 [0, 1] ∧ OE g60 Try.f60 [0, 1, 1] ∧ OE g60 Try.f60 [0, 1, 1, 1] ∧ OE g60 Try.f60 [0, 1, 1, 1, 1] ∧ OE g60 Try.f60 [0, 1, 1, 1, 1, 1] := ⟨oe_eq _ _, oe_eq _ _, oe_eq _ _, oe_eq _ _, oe_eq _ _, oe_eq _ _⟩
theorem o61 : OE g61 Try.f61 [0] ∧ OE g61 Try.f61 [0, 0, 1] ∧ OE g61 Try.f61 [0, 0, 1, 0, 1] ∧ OE g61 Try.f61 [0, 0, 1, 1] ∧ OE g61 Try.f61 [0, 0, 1, 0, 1, 1] ∧ OE g61 Try.f61 [0, 1, 1, 1] := ⟨oe_eq _ _, oe_eq _ _, oe_eq _ _, oe_eq _ _, oe_eq _ _, oe_eq _ _⟩
theorem o62 : OE g62 Try.f62 [0] ∧ OE g62 Try.f62 [0, 0, 1] ∧ OE g62 Try.f62 [0, 0, 1, 0, 1] ∧ OE g62 Try.f62 [0, 0, 1, 1] ∧ OE g62 Try.f62 [0, 0, 1, 0, 1, 1] ∧ OE g62 Try.f62 [0, 1, 1, 1] := ⟨oe_eq _ _, oe_eq _ _, oe_eq _ _, oe_eq _ _, oe_eq _ _, oe_eq _ _⟩
theorem o63 : OE g63 Try.f63 [0] ∧ OE g63 Try.f63 [0, 0, 1] ∧ OE g63 Try.f63 [0, 0, 1, 0, 1] ∧ OE g63 Try.f63 [0, 0, 1, 1] ∧ OE g63 Try.f63 [0, 0, 1, 0, 1, 1] ∧ OE g63 Try.f63 [0, 0, 1, 1, 1] ∧ OE g63 Try.f63 [0, 0, 1, 0, 1, 1, 1] ∧ OE g63 Try.f63 [0, 1, 1, 1, 1] := ⟨oe_eq _ _, oe_eq _ _, oe_eq _ _, oe_eq _ _, oe_eq _ _, oe_eq _ _, oe_eq _ _, oe_eq _ _⟩
theorem o7 : OE g7 Try.f7 [0] ∧ OE g7 Try.f7 [0, 1] ∧ OE g7 Try.f7 [0, 1, 1] ∧ OE g7 Try.f7 [0, 1, 1, 1] := ⟨oe_eq _ _, oe_eq _ _, oe_eq _ _, oe_eq _ _⟩
theorem o8 : OE g8 Try.f8 [0] ∧ OE g8 Try.f8 [0, 0, 1] ∧ OE g8 Try.f8 [0, 0, 1, 0, 1] ∧ OE g8 Try.f8 [0, 0, 1, 1] ∧ OE g8 Try.f8 [0, 0, 1, 0, 1, 1] ∧ OE g8 Try.f8 [0, 0, 1, 1, 1] ∧ OE g8 Try.f8 [0, 0, 1, 0, 1, 1, 1] ∧ OE g8 Try.f8 [0, 0, 1, 1, 1, 1] ∧ OE g8 Try.f8 [0, 0, 1, 0, 1, 1, 1, 1] ∧ OE g8 Try.f8 [0, 0, 1, 1, 1, 1, 1] ∧ OE g8 Try.f8 [0, 0, 1, 0, 1, 1, 1, 1, 1] ∧ OE g8 Try.f8 [0, 0, 1, 1, 1, 1, 1, 1] ∧ OE g8 Try.f8 [0, 0, 1, 0, 1, 1, 1, 1, 1, 1] ∧ OE g8 Try.f8 [0, 0, 1, 1, 1, 1, 1, 1, 1] ∧ OE g8 Try.f8 [0, 0, 1, 0, 1, 1, 1, 1, 1, 1, 1] ∧ OE g8 Try.f8 [0, 0, 1, 1, 1, 1, 1, 1, 1, 1] ∧ OE g8 Try.f8 [0, 0, 1, 0, 1, 1, 1, 1, 1, 1, 1, 1] ∧ OE g8 Try.f8 [0, 0, 1, 1, 1, 1, 1, 1, 1, 1, 1] ∧ OE g8 Try.f8 [0, 0, 1, 0, 1, 1, 1, 1, 1, 1, 1, 1, 1] ∧ OE g8 Try.f8 [0, 1, 1, 1, 1, 1, 1, 1, 1, 1, 1] := ⟨oe_eq _ _, oe_eq _ _, oe_eq _ _, oe_eq _ _, oe_eq _ _, oe_eq _ _, oe_eq _ _, oe_eq _ _, oe_eq _ _, oe_eq _ _, oe_eq _ _, oe_eq _ _, oe_eq _ _, oe_eq _ _, oe_eq _ _, oe_eq _ _, oe_eq _ _, oe_eq _ _, oe_eq _ _, oe_eq _ _⟩
theorem o9 : OE g9 Try.f9 [0] ∧ OE g9 Try.f9 [0, 1] ∧ OE g9 Try.f9 [0, 1, 1] ∧ OE g9 Try.f9 [0, 1, 1, 1] ∧ OE g9 Try.f9 [0, 1, 1, 1, 1] ∧ OE g9 Try.f9 [0, 1, 1, 1, 1, 1] ∧ OE g9 Try.f9 [0, 1, 1, 1, 1, 1, 1] := ⟨oe_eq _ _, oe_eq _ _, oe_eq _ _, oe_eq _ _, oe_eq _ _, oe_eq _ _, oe_eq _ _⟩
theorem nameT : NameOK Try.prog := nameOK_of (by kernel_rfl)
theorem mixT : Try.prog.follows .mixedOrders = true := by kernel_rfl
theorem drawT : DrawsOK Try.prog T := drawsOK_of (by kernel_rfl)
end Go.Vsi

