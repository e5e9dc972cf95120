/- What the functions of the program, of the reference and of the law do (a part of it). -/
import Derived.Test.YtaambigpdmnncaaPY
import Derived.Lib.Bytealg
namespace Go.Vsi
open Go.Proofs
noncomputable section
set_option maxRecDepth 100000
set_option maxHeartbeats 4000000
set_option linter.unusedSimpArgs false
set_option linter.unusedVariables false
attribute [local go_sem] List.isEmpty_nil Bool.true_or Bool.and_true Bool.and_self Bool.false_eq_true Bool.not_true Bool.not_false List.set_cons_zero List.set_cons_succ frzSt wantedA evA constW ofVal plain oneOf noUp toVal cellVal putA startA List.length_cons List.length_nil List.map_cons List.map_nil List.replicate List.cons_append List.nil_append List.getElem?_cons_succ List.getElem?_cons_zero List.getElem?_toArray List.set upd Option.bind resA resOne giveA seenOf idsAt reach renH renW renV renS renB idsW idsV idsS frzW frzV frzS List.filter_nil List.range_zero List.flatMap_nil List.flatMap_cons List.append_nil List.range List.range.loop sliceLen intV List.length_map one partA ordOf canon junkBut List.elem_cons List.elem_nil Bool.false_or Bool.or_false Bool.or_true cond_true cond_false firstReg evL opTmps footA cut callOk List.all_nil List.all_cons Op.operands Array.toList List.filterMap_cons List.filterMap_nil lendCall ownCall lendVs lendV lendS plainW plainV plainS List.zipIdx_nil hpOf Array.toList_map idsB natBle beq_self_eq_true Int.toNat_natCast Option.map_some Option.map_none ix cellsV Nat.zero_add List.any_nil List.any_cons List.take_zero List.take_succ_cons List.take_nil List.drop_succ_cons List.drop_zero List.drop_nil toD toDs List.filter_cons Nat.zero_le Nat.le_refl frzH ite_true ite_false if_true if_false stpO_some opsO_nil opsO_cons stpD_some nthD_some drawO_nil drawO_cons decTrue decFalse callA natBeq decT decF B_size B_mk B_empty B_append B_extract decide_eq_true_eq Bool.not_eq_true' decide_eq_false_iff_not Bool.and_eq_true Bool.or_eq_true boundsA sliceA B_toList Bool.and_false Bool.false_and Bool.true_and backOf List.zipIdx_cons Option.getD_some Option.getD_none Nat.sub_self fillA rowsOf toRows List.flatten_cons List.flatten_nil appendA sliceRows lendSs capPtr opO_pick opO_move opO_assign opO_extract opO_nilCheck opO_unOp opO_binOp opO_convert opO_index opO_field opO_alloc opO_box opO_build opO_buildSlice opO_makeSlice opO_load opO_store opO_fieldAddr opO_indexAddr opO_slice opO_makeFunc opO_builtin opO_fn regK_some lopK_some lopK_ite map_get endA G26 I3 S3 C3 A3 B3 Try.underlying3 Z3 R26 M26 G22 R22 M22 G27 I47 S47 C47 A47 B47 Try.underlying47 E47 Z47 K27_2 O27_2 H26 Y26 R27 M27 G57 I5 S5 C5 A5 B5 Try.underlying5 Z5 R57 M57 G55 R55 M55 G49 R49 M49 G50 I9 S9 C9 A9 B9 Try.underlying9 Z9 K50_2 O50_2 H57 Y57 R50 M50 G37 K37_2 O37_2 H49 Y49 R37 M37 G45 K45_2 O45_2 H22 Y22 R45 M45 G46 K46_2 O46_2 R46 M46 G70 I86 S86 C86 A86 B86 Try.underlying86 E86 Z86 K70_2 O70_2 R70 M70 G58 H70 Y70 R58 M58 G51 H58 Y58 R51 M51 G39 H50 Y50 H51 Y51 R39 M39 G47 K47_3 K47_8 O47_3 O47_8 H55 Y55 R47 M47 G87 K87_3 O87_3 R87 M87
attribute [local go_sem ↓] ite_dec popK_nil popK_seq popK_seqE popK_seqR popK_blk popK_blkR popK_blkE endF_normal endF_ret q26_ q26_0 q26_1 q26_10 q26_11 q22_ q22_0 q22_1 q22_10 q22_11 q27_ q27_0 q27_1 q27_10 q27_100 q27_101 q27_1010 q27_10100 q27_101000 q27_101001 q27_1010010 q27_10100100 q27_10100101 q27_1010011 q27_10100110 q27_101001100 q27_1010011000 q27_1010011001 q27_10100110010 q27_10100110011 q27_101001100110 q27_1010011001100 q27_1010011001101 q27_101001100111 q27_10100111 q27_11 q27_110 q27_111 q57_ q57_0 q57_1 q57_10 q57_11 q55_ q55_0 q55_1 q55_10 q55_11 q49_ q49_0 q49_1 q49_10 q49_11 q50_ q50_0 q50_1 q50_10 q50_100 q50_101 q50_1010 q50_10100 q50_101000 q50_101001 q50_1010010 q50_10100100 q50_10100101 q50_1010011 q50_10100110 q50_101001100 q50_1010011000 q50_1010011001 q50_10100110010 q50_10100110011 q50_101001100110 q50_1010011001100 q50_1010011001101 q50_101001100111 q50_10100111 q50_11 q50_110 q50_111 q37_ q37_0 q37_1 q37_10 q37_100 q37_101 q37_1010 q37_10100 q37_101000 q37_101001 q37_1010010 q37_10100100 q37_10100101 q37_1010011 q37_10100110 q37_101001100 q37_1010011000 q37_1010011001 q37_10100110010 q37_10100110011 q37_101001100110 q37_1010011001100 q37_1010011001101 q37_101001100111 q37_10100111 q37_11 q37_110 q37_111 q45_ q45_0 q45_1 q45_10 q45_100 q45_101 q45_1010 q45_10100 q45_101000 q45_1010000 q45_1010001 q45_10100010 q45_10100011 q45_101001 q45_1010010 q45_10100100 q45_101001000 q45_101001001 q45_1010010010 q45_10100100100 q45_10100100101 q45_1010010011 q45_1010011 q45_11 q45_110 q45_111 q46_ q46_0 q46_1 q46_10 q46_100 q46_101 q46_1010 q46_10100 q46_101000 q46_1010000 q46_1010001 q46_10100010 q46_10100011 q46_101001 q46_1010010 q46_10100100 q46_101001000 q46_101001001 q46_1010010010 q46_10100100100 q46_10100100101 q46_1010010011 q46_1010011 q46_11 q46_110 q46_111 q70_ q70_0 q70_1 q70_10 q70_100 q70_101 q70_1010 q70_10100 q70_101000 q70_101001 q70_1010010 q70_10100100 q70_10100101 q70_1010011 q70_10100110 q70_101001100 q70_1010011000 q70_1010011001 q70_10100110010 q70_10100110011 q70_101001100110 q70_1010011001100 q70_1010011001101 q70_101001100111 q70_10100111 q70_11 q70_110 q70_111 q58_ q58_0 q58_1 q58_10 q58_11 q51_ q51_0 q51_1 q51_10 q51_11 q39_ q39_0 q39_1 q39_10 q39_11 q47_ q47_0 q47_1 q47_10 q47_11 q47_110 q47_1100 q47_1101 q47_11010 q47_110100 q47_1101000 q47_11010000 q47_11010001 q47_110100010 q47_110100011 q47_1101001 q47_11010010 q47_110100100 q47_1101001000 q47_1101001001 q47_11010010010 q47_110100100100 q47_110100100101 q47_11010010011 q47_11010011 q47_111 q47_1110 q47_11100 q47_11101 q47_111010 q47_1110100 q47_11101000 q47_111010000 q47_111010001 q47_1110100010 q47_1110100011 q47_11101001 q47_111010010 q47_1110100100 q47_11101001000 q47_11101001001 q47_111010010010 q47_1110100100100 q47_1110100100101 q47_111010010011 q47_111010011 q47_1111 q47_11110 q47_11111 q87_ q87_0 q87_1 q87_10 q87_11 q87_110 q87_1100 q87_1101 q87_11010 q87_110100 q87_1101000 q87_11010000 q87_11010001 q87_110100010 q87_110100011 q87_1101001 q87_11010010 q87_110100100 q87_1101001000 q87_1101001001 q87_11010010010 q87_110100100100 q87_110100100101 q87_11010010011 q87_11010011 q87_111 q87_1110 q87_1111 bin_add bin_sub bin_mul bin_lss bin_leq bin_gtr bin_geq un_not min_int max_int wrap64' wrap_u8 wrap_i32 wrap64_byte wrap8_byte wrap32_byte bin_eqB bin_neB bin_addB CV5_3 LN9 IX9
abbrev J : W := .one .junk
theorem BC_ndec {p : Prop} [Decidable p] : BC (!decide p) (¬ p) p := BC_not BC_dec
theorem BC_nb {b : Bool} : BC (!b) (b = false) (b = true) := BC_not BC_b
/-- What is told of the library's functions that are not run. -/
def L0 : Call := fun f args bs => match f with
  | 41 => match args, bs with
    | [.c (.d (.v (.string s))), .c (.d (.v (.string t)))], [] => if s.size < 4294967281 ∧ t.size = 2 ∧ (t.data.toList.all fun b => decide (b.toNat < 128)) = true then some (.one (.c (.d (.v (.bool (s.data.toList.any fun b => t.data.toList.contains b))))), []) else none
    | _, _ => none
  | 80 => match args, bs with
    | [.c (.d (.v (.string s))), .c (.d (.v (.int .u8 c)))], [] => some (.one (.c (.d (.v (.int .i64 (Go.Lib.indexByte s.data.toList c.toNat.toUInt8))))), [])
    | _, _ => none
  | _ => none
theorem B_list (l : List UInt8) : (B l).data.toList = l := rfl
theorem containsAny_ok (s : List UInt8) (a b : UInt8) (hs : s.length < 4294967281) (ha : a.toNat < 128) (hb : b.toNat < 128) : fnL Try.prog T L0 41 [.c (.d (.v (.string (B (s))))), .c (.d (.v (.string (B ([a, b])))))] [] = some (.one (.c (.d (.v (.bool (s.any fun x => decide (x = a) || decide (x = b)))))), []) := by
  refine fnL_lib ?_
  have h : (B s).size < 4294967281 ∧ (B [a, b]).size = 2 ∧ ((B [a, b]).data.toList.all fun b => decide (b.toNat < 128)) = true := ⟨hs, rfl, by simp [B_list, ha, hb]⟩
  simp only [L0, if_pos h]
  simp only [B_list]
  congr 8
  funext x
  rw [Bool.eq_iff_iff]
  simp
theorem indexByte_ok (s : List UInt8) (c : UInt8) : fnL Try.prog T L0 80 [.c (.d (.v (.string (B (s))))), .c (.d (.v (.int .u8 ((c.toNat : Int)))))] [] = some (.one (.c (.d (.v (.int .i64 (Go.Lib.indexByte s c))))), []) := by
  refine fnL_lib ?_
  simp only [L0, B_list, Int.toNat_natCast]
  simp
def rI (xs : List Int) : List (List D) := xs.map fun y => [.v (.int .i64 y)]
theorem within_ok (a b c : Int) : fnL Try.prog T L0 26 [.c (.d (.v (.int .i64 (a)))), .c (.d (.v (.int .i64 (b)))), .c (.d (.v (.int .i64 (c))))] [] = some (.one (.c (.d (.v (.bool (decide (b ≤ a ∧ a ≤ c)))))), []) := by
  refine fnL_run rfl N26 Try.func26 U26 ?_; have o := o26; simp only [OE, opsR, cqR, subR, chi, Try.f26] at o
  simp +contextual (maxSteps := 4000000) (disch := first | assumption | omega) only [go_sem, o, pairsOk, ↓bin_eql, ↓bin_neq, Nat.reduceAdd, Nat.reduceSub, Nat.reduceMul, Nat.reduceBEq, Nat.reduceLeDiff, ↓ite_not, ↓ite_tt, ↓ite_ff, ↓if_pos, ↓if_neg, stpO_ite, grdO_some, stpD_ite, grdD_some, pickO_bool, Nat.reduceLT, Nat.reduceDiv, Nat.reduceMod, condK_bool, regK_ite, drwK_some, drwK_ite]
  split <;> simp [*]
theorem in_ok (a b c : Int) : fnL Try.prog T L0 22 [.c (.d (.v (.int .i64 (a)))), .c (.d (.v (.int .i64 (b)))), .c (.d (.v (.int .i64 (c))))] [] = some (.one (.c (.d (.v (.bool (decide (b ≤ a ∧ a ≤ c)))))), []) := by
  refine fnL_run rfl N22 Try.func22 U22 ?_; have o := o22; simp only [OE, opsR, cqR, subR, chi, Try.f22] at o
  simp +contextual (maxSteps := 4000000) (disch := first | assumption | omega) only [go_sem, o, pairsOk, ↓bin_eql, ↓bin_neq, Nat.reduceAdd, Nat.reduceSub, Nat.reduceMul, Nat.reduceBEq, Nat.reduceLeDiff, ↓ite_not, ↓ite_tt, ↓ite_ff, ↓if_pos, ↓if_neg, stpO_ite, grdO_some, stpD_ite, grdD_some, pickO_bool, Nat.reduceLT, Nat.reduceDiv, Nat.reduceMod, condK_bool, regK_ite, drwK_some, drwK_ite]
  split <;> simp [*]
theorem kidsAhead_loop (xs : List Int) (at' : Int) (hm : xs.length ≤ maxLen) (ha : 0 ≤ at' ∧ at' ≤ maxLen) : ∀ (n : Nat) (i : Int), 0 ≤ i → i + n = xs.length →
    loopC Try.prog T (fnL Try.prog T L0) 27 (cq g27 [0, 0, 1, 0, 1]) ⟨[J, .one (.c (.d (.v (.int .i64 (at'))))), J, J, J, J, J, .one (.c (.d (.sl 1 (rI xs)))), .one (.c (.d (.v (.int .i64 ((xs.length : Int)))))), .one (.c (.d (.v (.int .i64 (i))))), J, J, J, J, J, J, J, J, J], hpOf [], 0, 0⟩ =
      if (xs.drop i.toNat).all (fun k => decide (0 ≤ k ∧ k ≤ at' - 1)) = true then some (.exit 0, ⟨[J, J, J, J, J, J, J, J, J, J, J, J, J, J, J, J, J, J, J], hpOf [], 0, 0⟩) else some (.ret, ⟨[J, J, J, J, .one (.c (.d (.v (.bool (false))))), J, J, J, J, J, J, J, J, J, J, J, J, J, J], hpOf [], 0, 0⟩)
  | 0, i, h0, hn => by
    have : maxLen = 9223372036854775807 := rfl
    have o := o27_10100; simp only [OE, opsR, cqR, subR, chi, Try.f27] at o
    rw [loopC_round]
    simp +contextual (maxSteps := 4000000) (disch := first | assumption | omega) only [go_sem, rI, drop_end, List.all_nil, o, pairsOk, ↓bin_eql, ↓bin_neq, Nat.reduceAdd, Nat.reduceSub, Nat.reduceMul, Nat.reduceBEq, Nat.reduceLeDiff, ↓ite_not, ↓ite_tt, ↓ite_ff, ↓if_pos, ↓if_neg, stpO_ite, grdO_some, stpD_ite, grdD_some, pickO_bool, Nat.reduceLT, Nat.reduceDiv, Nat.reduceMod, condK_bool, regK_ite, drwK_some, drwK_ite]
  | n + 1, i, h0, hn => by
    have : maxLen = 9223372036854775807 := rfl
    have ih := kidsAhead_loop xs at' hm ha n (i + 1) (by omega) (by omega)
    have o := o27_10100; simp only [OE, opsR, cqR, subR, chi, Try.f27] at o
    rw [loopC_round]
    simp only [rI] at ih
    simp +contextual (maxSteps := 4000000) (disch := first | assumption | omega) only [go_sem, rI, within_ok, ih, drop_at, List.all_cons, o, pairsOk, ↓bin_eql, ↓bin_neq, Nat.reduceAdd, Nat.reduceSub, Nat.reduceMul, Nat.reduceBEq, Nat.reduceLeDiff, ↓ite_not, ↓ite_tt, ↓ite_ff, ↓if_pos, ↓if_neg, stpO_ite, grdO_some, stpD_ite, grdD_some, pickO_bool, Nat.reduceLT, Nat.reduceDiv, Nat.reduceMod, condK_bool, regK_ite, drwK_some, drwK_ite]
    clear ih
    grind
theorem kidsAhead_ok (xs : List Int) (at' : Int) (hm : xs.length ≤ maxLen) (ha : 0 ≤ at' ∧ at' ≤ maxLen) : fnL Try.prog T L0 27 [.c (.d (.sl 1 (rI xs))), .c (.d (.v (.int .i64 (at'))))] [] = some (.one (.c (.d (.v (.bool (xs.all (fun k => decide (0 ≤ k ∧ k ≤ at' - 1))))))), []) := by
  have L := kidsAhead_loop xs at' hm ha xs.length 0 (by omega) (by omega)
  simp only [rI] at L
  refine fnL_run rfl N27 Try.func27 U27 ?_; have o := o27; simp only [OE, opsR, cqR, subR, chi, Try.f27] at o
  simp +contextual (maxSteps := 4000000) (disch := first | assumption | omega) only [go_sem, rI, L, o, pairsOk, ↓bin_eql, ↓bin_neq, Nat.reduceAdd, Nat.reduceSub, Nat.reduceMul, Nat.reduceBEq, Nat.reduceLeDiff, ↓ite_not, ↓ite_tt, ↓ite_ff, ↓if_pos, ↓if_neg, stpO_ite, grdO_some, stpD_ite, grdD_some, pickO_bool, Nat.reduceLT, Nat.reduceDiv, Nat.reduceMod, condK_bool, regK_ite, drwK_some, drwK_ite]
  clear L
  grind
def isLet (b : UInt8) : Bool := decide ((97 ≤ (b.toNat : Int) ∧ (b.toNat : Int) ≤ 122) ∨ (65 ≤ (b.toNat : Int) ∧ (b.toNat : Int) ≤ 90))
def isFig (b : UInt8) : Bool := decide (48 ≤ (b.toNat : Int) ∧ (b.toNat : Int) ≤ 57)
theorem isLetter_ok (b : UInt8) : fnL Try.prog T L0 57 [.c (.d (.v (.int .u8 ((b.toNat : Int)))))] [] = some (.one (.c (.d (.v (.bool (isLet b))))), []) := by
  refine fnL_run rfl N57 Try.func57 U57 ?_; have o := o57; simp only [OE, opsR, cqR, subR, chi, Try.f57] at o
  simp +contextual (maxSteps := 4000000) (disch := first | assumption | omega) only [go_sem, within_ok, isLet, o, pairsOk, ↓bin_eql, ↓bin_neq, Nat.reduceAdd, Nat.reduceSub, Nat.reduceMul, Nat.reduceBEq, Nat.reduceLeDiff, ↓ite_not, ↓ite_tt, ↓ite_ff, ↓if_pos, ↓if_neg, stpO_ite, grdO_some, stpD_ite, grdD_some, pickO_bool, Nat.reduceLT, Nat.reduceDiv, Nat.reduceMod, condK_bool, regK_ite, drwK_some, drwK_ite]
  grind
theorem l05Letter_ok (b : UInt8) : fnL Try.prog T L0 55 [.c (.d (.v (.int .u8 ((b.toNat : Int)))))] [] = some (.one (.c (.d (.v (.bool (isLet b))))), []) := by
  refine fnL_run rfl N55 Try.func55 U55 ?_; have o := o55; simp only [OE, opsR, cqR, subR, chi, Try.f55] at o
  simp +contextual (maxSteps := 4000000) (disch := first | assumption | omega) only [go_sem, isLet, o, pairsOk, ↓bin_eql, ↓bin_neq, Nat.reduceAdd, Nat.reduceSub, Nat.reduceMul, Nat.reduceBEq, Nat.reduceLeDiff, ↓ite_not, ↓ite_tt, ↓ite_ff, ↓if_pos, ↓if_neg, stpO_ite, grdO_some, stpD_ite, grdD_some, pickO_bool, Nat.reduceLT, Nat.reduceDiv, Nat.reduceMod, condK_bool, regK_ite, drwK_some, drwK_ite]
  grind
theorem isFigure_ok (b : UInt8) : fnL Try.prog T L0 49 [.c (.d (.v (.int .u8 ((b.toNat : Int)))))] [] = some (.one (.c (.d (.v (.bool (isFig b))))), []) := by
  refine fnL_run rfl N49 Try.func49 U49 ?_; have o := o49; simp only [OE, opsR, cqR, subR, chi, Try.f49] at o
  simp +contextual (maxSteps := 4000000) (disch := first | assumption | omega) only [go_sem, within_ok, isFig, o, pairsOk, ↓bin_eql, ↓bin_neq, Nat.reduceAdd, Nat.reduceSub, Nat.reduceMul, Nat.reduceBEq, Nat.reduceLeDiff, ↓ite_not, ↓ite_tt, ↓ite_ff, ↓if_pos, ↓if_neg, stpO_ite, grdO_some, stpD_ite, grdD_some, pickO_bool, Nat.reduceLT, Nat.reduceDiv, Nat.reduceMod, condK_bool, regK_ite, drwK_some, drwK_ite]

theorem isLetters_loop (s : List UInt8) (hm : s.length ≤ maxLen) : ∀ (n : Nat) (i : Int), 0 ≤ i → i + n = s.length →
    loopC Try.prog T (fnL Try.prog T L0) 50 (cq g50 [0, 0, 1, 0, 1]) ⟨[.one (.c (.d (.v (.string (B (s)))))), J, J, J, J, .one (.c (.d (.v (.int .i64 ((s.length : Int)))))), .one (.c (.d (.v (.int .i64 (i))))), J, J, J, J, J, J, J, J, J, J, J], hpOf [], 0, 0⟩ =
      if (s.drop i.toNat).all (fun b => isLet b) = true then some (.exit 0, ⟨[.one (.c (.d (.v (.string (B (s)))))), J, J, J, J, J, J, J, J, J, J, J, J, J, J, J, J, J], hpOf [], 0, 0⟩) else some (.ret, ⟨[.one (.c (.d (.v (.string (B (s)))))), J, .one (.c (.d (.v (.bool (false))))), J, J, J, J, J, J, J, J, J, J, J, J, J, J, J], hpOf [], 0, 0⟩)
  | 0, i, h0, hn => by
    have : maxLen = 9223372036854775807 := rfl
    have o := o50_10100; simp only [OE, opsR, cqR, subR, chi, Try.f50] at o
    rw [loopC_round]
    simp +contextual (maxSteps := 4000000) (disch := first | assumption | omega) only [go_sem, drop_end, List.all_nil, o, pairsOk, ↓bin_eql, ↓bin_neq, Nat.reduceAdd, Nat.reduceSub, Nat.reduceMul, Nat.reduceBEq, Nat.reduceLeDiff, ↓ite_not, ↓ite_tt, ↓ite_ff, ↓if_pos, ↓if_neg, stpO_ite, grdO_some, stpD_ite, grdD_some, pickO_bool, Nat.reduceLT, Nat.reduceDiv, Nat.reduceMod, condK_bool, regK_ite, drwK_some, drwK_ite]
  | n + 1, i, h0, hn => by
    have : maxLen = 9223372036854775807 := rfl
    have ih := isLetters_loop s hm n (i + 1) (by omega) (by omega)
    have o := o50_10100; simp only [OE, opsR, cqR, subR, chi, Try.f50] at o
    rw [loopC_round]
    simp +contextual (maxSteps := 4000000) (disch := first | assumption | omega) only [go_sem, ih, drop_at, List.all_cons, isLetter_ok, o, pairsOk, ↓bin_eql, ↓bin_neq, Nat.reduceAdd, Nat.reduceSub, Nat.reduceMul, Nat.reduceBEq, Nat.reduceLeDiff, ↓ite_not, ↓ite_tt, ↓ite_ff, ↓if_pos, ↓if_neg, stpO_ite, grdO_some, stpD_ite, grdD_some, pickO_bool, Nat.reduceLT, Nat.reduceDiv, Nat.reduceMod, condK_bool, regK_ite, drwK_some, drwK_ite]
    clear ih
    grind
theorem isLetters_ok (s : List UInt8) (hm : s.length ≤ maxLen) : fnL Try.prog T L0 50 [.c (.d (.v (.string (B (s)))))] [] = some (.one (.c (.d (.v (.bool (s.all (fun b => isLet b) && decide (1 ≤ (s.length : Int) ∧ (s.length : Int) ≤ 8)))))), []) := by
  have L := isLetters_loop s hm s.length 0 (by omega) (by omega)
  refine fnL_run rfl N50 Try.func50 U50 ?_; have o := o50; simp only [OE, opsR, cqR, subR, chi, Try.f50] at o
  simp +contextual (maxSteps := 4000000) (disch := first | assumption | omega) only [go_sem, within_ok, L, o, pairsOk, ↓bin_eql, ↓bin_neq, Nat.reduceAdd, Nat.reduceSub, Nat.reduceMul, Nat.reduceBEq, Nat.reduceLeDiff, ↓ite_not, ↓ite_tt, ↓ite_ff, ↓if_pos, ↓if_neg, stpO_ite, grdO_some, stpD_ite, grdD_some, pickO_bool, Nat.reduceLT, Nat.reduceDiv, Nat.reduceMod, condK_bool, regK_ite, drwK_some, drwK_ite]
  clear L
  grind

theorem allFigures_loop (s : List UInt8) (lo hi : Int) (hm : s.length ≤ maxLen) : ∀ (n : Nat) (i : Int), 0 ≤ i → i + n = s.length →
    loopC Try.prog T (fnL Try.prog T L0) 37 (cq g37 [0, 0, 1, 0, 1]) ⟨[.one (.c (.d (.v (.string (B (s)))))), .one (.c (.d (.v (.int .i64 (lo))))), .one (.c (.d (.v (.int .i64 (hi))))), J, J, J, J, J, J, .one (.c (.d (.v (.int .i64 ((s.length : Int)))))), .one (.c (.d (.v (.int .i64 (i))))), J, J, J, J, J, J, J, J, J, J, J, J, J], hpOf [], 0, 0⟩ =
      if (s.drop i.toNat).all (fun b => isFig b) = true then some (.exit 0, ⟨[.one (.c (.d (.v (.string (B (s)))))), .one (.c (.d (.v (.int .i64 (lo))))), .one (.c (.d (.v (.int .i64 (hi))))), J, J, J, J, J, J, J, J, J, J, J, J, J, J, J, J, J, J, J, J, J], hpOf [], 0, 0⟩) else some (.ret, ⟨[.one (.c (.d (.v (.string (B (s)))))), .one (.c (.d (.v (.int .i64 (lo))))), .one (.c (.d (.v (.int .i64 (hi))))), J, J, J, .one (.c (.d (.v (.bool (false))))), J, J, J, J, J, J, J, J, J, J, J, J, J, J, J, J, J], hpOf [], 0, 0⟩)
  | 0, i, h0, hn => by
    have : maxLen = 9223372036854775807 := rfl
    have o := o37_10100; simp only [OE, opsR, cqR, subR, chi, Try.f37] at o
    rw [loopC_round]
    simp +contextual (maxSteps := 4000000) (disch := first | assumption | omega) only [go_sem, drop_end, List.all_nil, o, pairsOk, ↓bin_eql, ↓bin_neq, Nat.reduceAdd, Nat.reduceSub, Nat.reduceMul, Nat.reduceBEq, Nat.reduceLeDiff, ↓ite_not, ↓ite_tt, ↓ite_ff, ↓if_pos, ↓if_neg, stpO_ite, grdO_some, stpD_ite, grdD_some, pickO_bool, Nat.reduceLT, Nat.reduceDiv, Nat.reduceMod, condK_bool, regK_ite, drwK_some, drwK_ite]
  | n + 1, i, h0, hn => by
    have : maxLen = 9223372036854775807 := rfl
    have ih := allFigures_loop s lo hi hm n (i + 1) (by omega) (by omega)
    have o := o37_10100; simp only [OE, opsR, cqR, subR, chi, Try.f37] at o
    rw [loopC_round]
    simp +contextual (maxSteps := 4000000) (disch := first | assumption | omega) only [go_sem, ih, drop_at, List.all_cons, isFigure_ok, o, pairsOk, ↓bin_eql, ↓bin_neq, Nat.reduceAdd, Nat.reduceSub, Nat.reduceMul, Nat.reduceBEq, Nat.reduceLeDiff, ↓ite_not, ↓ite_tt, ↓ite_ff, ↓if_pos, ↓if_neg, stpO_ite, grdO_some, stpD_ite, grdD_some, pickO_bool, Nat.reduceLT, Nat.reduceDiv, Nat.reduceMod, condK_bool, regK_ite, drwK_some, drwK_ite]
    clear ih
    grind
theorem allFigures_ok (s : List UInt8) (lo hi : Int) (hm : s.length ≤ maxLen) : fnL Try.prog T L0 37 [.c (.d (.v (.string (B (s))))), .c (.d (.v (.int .i64 (lo)))), .c (.d (.v (.int .i64 (hi))))] [] = some (.one (.c (.d (.v (.bool (s.all (fun b => isFig b) && decide (lo ≤ (s.length : Int) ∧ (s.length : Int) ≤ hi)))))), []) := by
  have L := allFigures_loop s lo hi hm s.length 0 (by omega) (by omega)
  refine fnL_run rfl N37 Try.func37 U37 ?_; have o := o37; simp only [OE, opsR, cqR, subR, chi, Try.f37] at o
  simp +contextual (maxSteps := 4000000) (disch := first | assumption | omega) only [go_sem, within_ok, L, o, pairsOk, ↓bin_eql, ↓bin_neq, Nat.reduceAdd, Nat.reduceSub, Nat.reduceMul, Nat.reduceBEq, Nat.reduceLeDiff, ↓ite_not, ↓ite_tt, ↓ite_ff, ↓if_pos, ↓if_neg, stpO_ite, grdO_some, stpD_ite, grdD_some, pickO_bool, Nat.reduceLT, Nat.reduceDiv, Nat.reduceMod, condK_bool, regK_ite, drwK_some, drwK_ite]
  clear L
  grind

theorem IsNum_loop (s : List UInt8) (hm : s.length ≤ maxLen) : ∀ (n : Nat) (i : Int), 0 ≤ i → i + n = s.length →
    loopC Try.prog T (fnL Try.prog T L0) 45 (cq g45 [0, 0, 1, 0, 1]) ⟨[.one (.c (.d (.v (.string (B (s)))))), J, J, .one (.c (.d (.v (.int .i64 (i))))), J, J, J, J, J, J, J, J, J, J, J, J, J, J, J, J, J, J, J], hpOf [], 0, 0⟩ =
      if (s.drop i.toNat).all (fun b => isFig b) = true then some (.exit 0, ⟨[.one (.c (.d (.v (.string (B (s)))))), J, J, J, J, J, J, J, J, J, J, J, J, J, J, J, J, J, J, J, J, J, J], hpOf [], 0, 0⟩) else some (.ret, ⟨[.one (.c (.d (.v (.string (B (s)))))), J, .one (.c (.d (.v (.bool (false))))), J, J, J, J, J, J, J, J, J, J, J, J, J, J, J, J, J, J, J, J], hpOf [], 0, 0⟩)
  | 0, i, h0, hn => by
    have : maxLen = 9223372036854775807 := rfl
    have o := o45_10100; simp only [OE, opsR, cqR, subR, chi, Try.f45] at o
    rw [loopC_round]
    simp +contextual (maxSteps := 4000000) (disch := first | assumption | omega) only [go_sem, drop_end, List.all_nil, o, pairsOk, ↓bin_eql, ↓bin_neq, Nat.reduceAdd, Nat.reduceSub, Nat.reduceMul, Nat.reduceBEq, Nat.reduceLeDiff, ↓ite_not, ↓ite_tt, ↓ite_ff, ↓if_pos, ↓if_neg, stpO_ite, grdO_some, stpD_ite, grdD_some, pickO_bool, Nat.reduceLT, Nat.reduceDiv, Nat.reduceMod, condK_bool, regK_ite, drwK_some, drwK_ite]
  | n + 1, i, h0, hn => by
    have : maxLen = 9223372036854775807 := rfl
    have ih := IsNum_loop s hm n (i + 1) (by omega) (by omega)
    have o := o45_10100; simp only [OE, opsR, cqR, subR, chi, Try.f45] at o
    rw [loopC_round]
    simp +contextual (maxSteps := 4000000) (disch := first | assumption | omega) only [go_sem, ih, drop_at, List.all_cons, isFig, o, pairsOk, ↓bin_eql, ↓bin_neq, Nat.reduceAdd, Nat.reduceSub, Nat.reduceMul, Nat.reduceBEq, Nat.reduceLeDiff, ↓ite_not, ↓ite_tt, ↓ite_ff, ↓if_pos, ↓if_neg, stpO_ite, grdO_some, stpD_ite, grdD_some, pickO_bool, Nat.reduceLT, Nat.reduceDiv, Nat.reduceMod, condK_bool, regK_ite, drwK_some, drwK_ite]
    clear ih
    grind
theorem IsNum_ok (s : List UInt8) (hm : s.length ≤ maxLen) : fnL Try.prog T L0 45 [.c (.d (.v (.string (B (s)))))] [] = some (.one (.c (.d (.v (.bool (s.all (fun b => isFig b) && decide (1 ≤ (s.length : Int) ∧ (s.length : Int) ≤ 6)))))), []) := by
  have L := IsNum_loop s hm s.length 0 (by omega) (by omega)
  refine fnL_run rfl N45 Try.func45 U45 ?_; have o := o45; simp only [OE, opsR, cqR, subR, chi, Try.f45] at o
  simp +contextual (maxSteps := 4000000) (disch := first | assumption | omega) only [go_sem, in_ok, L, o, pairsOk, ↓bin_eql, ↓bin_neq, Nat.reduceAdd, Nat.reduceSub, Nat.reduceMul, Nat.reduceBEq, Nat.reduceLeDiff, ↓ite_not, ↓ite_tt, ↓ite_ff, ↓if_pos, ↓if_neg, stpO_ite, grdO_some, stpD_ite, grdD_some, pickO_bool, Nat.reduceLT, Nat.reduceDiv, Nat.reduceMod, condK_bool, regK_ite, drwK_some, drwK_ite]
  clear L
  grind

theorem l06Plain_loop (s : List UInt8) (most : Int) (mark : UInt8) (hm : s.length ≤ maxLen) : ∀ (n : Nat) (i : Int), 0 ≤ i → i + n = s.length →
    loopC Try.prog T (fnL Try.prog T L0) 46 (cq g46 [0, 0, 1, 0, 1]) ⟨[.one (.c (.d (.v (.string (B (s)))))), .one (.c (.d (.v (.int .i64 (most))))), .one (.c (.d (.v (.int .u8 ((mark.toNat : Int)))))), J, J, J, J, .one (.c (.d (.v (.int .i64 (i))))), J, J, J, J, J, J, J, J, J, J, J, J, J, J, J, J, J, J, J, J, J], hpOf [], 0, 0⟩ =
      if (s.drop i.toNat).all (fun b => !decide ((b.toNat : Int) = (mark.toNat : Int)) && !decide ((b.toNat : Int) = 10)) = true then some (.exit 0, ⟨[.one (.c (.d (.v (.string (B (s)))))), .one (.c (.d (.v (.int .i64 (most))))), J, J, J, J, J, J, J, J, J, J, J, J, J, J, J, J, J, J, J, J, J, J, J, J, J, J, J], hpOf [], 0, 0⟩) else some (.ret, ⟨[.one (.c (.d (.v (.string (B (s)))))), .one (.c (.d (.v (.int .i64 (most))))), J, J, J, J, .one (.c (.d (.v (.bool (false))))), J, J, J, J, J, J, J, J, J, J, J, J, J, J, J, J, J, J, J, J, J, J], hpOf [], 0, 0⟩)
  | 0, i, h0, hn => by
    have : maxLen = 9223372036854775807 := rfl
    have o := o46_10100; simp only [OE, opsR, cqR, subR, chi, Try.f46] at o
    rw [loopC_round]
    simp +contextual (maxSteps := 4000000) (disch := first | assumption | omega) only [go_sem, drop_end, List.all_nil, o, pairsOk, ↓bin_eql, ↓bin_neq, Nat.reduceAdd, Nat.reduceSub, Nat.reduceMul, Nat.reduceBEq, Nat.reduceLeDiff, ↓ite_not, ↓ite_tt, ↓ite_ff, ↓if_pos, ↓if_neg, stpO_ite, grdO_some, stpD_ite, grdD_some, pickO_bool, Nat.reduceLT, Nat.reduceDiv, Nat.reduceMod, condK_bool, regK_ite, drwK_some, drwK_ite]
  | n + 1, i, h0, hn => by
    have : maxLen = 9223372036854775807 := rfl
    have ih := l06Plain_loop s most mark hm n (i + 1) (by omega) (by omega)
    have o := o46_10100; simp only [OE, opsR, cqR, subR, chi, Try.f46] at o
    rw [loopC_round]
    simp +contextual (maxSteps := 4000000) (disch := first | assumption | omega) only [go_sem, ih, drop_at, List.all_cons, Bool.not_not, o, pairsOk, ↓bin_eql, ↓bin_neq, Nat.reduceAdd, Nat.reduceSub, Nat.reduceMul, Nat.reduceBEq, Nat.reduceLeDiff, ↓ite_not, ↓ite_tt, ↓ite_ff, ↓if_pos, ↓if_neg, stpO_ite, grdO_some, stpD_ite, grdD_some, pickO_bool, Nat.reduceLT, Nat.reduceDiv, Nat.reduceMod, condK_bool, regK_ite, drwK_some, drwK_ite]
    clear ih
    grind
theorem l06Plain_ok (s : List UInt8) (most : Int) (mark : UInt8) (hm : s.length ≤ maxLen) : fnL Try.prog T L0 46 [.c (.d (.v (.string (B (s))))), .c (.d (.v (.int .i64 (most)))), .c (.d (.v (.int .u8 ((mark.toNat : Int)))))] [] = some (.one (.c (.d (.v (.bool (s.all (fun b => !decide ((b.toNat : Int) = (mark.toNat : Int)) && !decide ((b.toNat : Int) = 10)) && decide ((s.length : Int) ≤ most)))))), []) := by
  have L := l06Plain_loop s most mark hm s.length 0 (by omega) (by omega)
  refine fnL_run rfl N46 Try.func46 U46 ?_; have o := o46; simp only [OE, opsR, cqR, subR, chi, Try.f46] at o
  simp +contextual (maxSteps := 4000000) (disch := first | assumption | omega) only [go_sem, L, o, pairsOk, ↓bin_eql, ↓bin_neq, Nat.reduceAdd, Nat.reduceSub, Nat.reduceMul, Nat.reduceBEq, Nat.reduceLeDiff, ↓ite_not, ↓ite_tt, ↓ite_ff, ↓if_pos, ↓if_neg, stpO_ite, grdO_some, stpD_ite, grdD_some, pickO_bool, Nat.reduceLT, Nat.reduceDiv, Nat.reduceMod, condK_bool, regK_ite, drwK_some, drwK_ite]
  clear L
  grind
def rS (xs : List (List UInt8)) : List (List D) := xs.map fun y => [.v (.string (B (y)))]
def idxS (s : List UInt8) : List (List UInt8) → Int → Int
  | [], _ => -1
  | w :: ws, i => if s = w then i else idxS s ws (i + 1)
theorem idxS_ge (s : List UInt8) : ∀ (ws : List (List UInt8)) (i : Int), s ∈ ws → i ≤ idxS s ws i
  | [], _, h => by cases h
  | w :: ws, i, h => by
    unfold idxS
    split
    · omega
    · rename_i hn
      rcases List.mem_cons.1 h with h | h
      · exact absurd h hn
      · have := idxS_ge s ws (i + 1) h
        omega
theorem sIndex_loop (ws : List (List UInt8)) (s : List UInt8) (hm : ws.length ≤ maxLen) : ∀ (n : Nat) (i : Int), 0 ≤ i → i + n = ws.length →
    loopC Try.prog T (fnL Try.prog T L0) 70 (cq g70 [0, 0, 1, 0, 1]) ⟨[.one (.c (.arr 0 0 ws.length)), .one (.c (.d (.v (.string (B (s)))))), J, J, J, J, J, .one (.c (.d (.v (.int .i64 ((ws.length : Int)))))), .one (.c (.d (.v (.int .i64 (i))))), J, J, J, J, J, J, J, J, J, J], hpOf [some (.arr 1 (rS ws))], 1, 1⟩ =
      if s ∈ ws.drop i.toNat then some (.ret, ⟨[J, J, J, J, .one (.c (.d (.v (.int .i64 (idxS s (ws.drop i.toNat) i))))), J, J, J, J, J, J, J, J, J, J, J, J, J, J], hpOf [some (.arr 1 (rS ws))], 1, 1⟩) else some (.exit 0, ⟨[J, J, J, J, J, J, J, J, J, J, J, J, J, J, J, J, J, J, J], hpOf [some (.arr 1 (rS ws))], 1, 1⟩)
  | 0, i, h0, hn => by
    have : maxLen = 9223372036854775807 := rfl
    have o := o70_10100; simp only [OE, opsR, cqR, subR, chi, Try.f70] at o
    rw [loopC_round]
    simp +contextual (maxSteps := 4000000) (disch := first | assumption | omega) only [go_sem, rS, drop_end, List.not_mem_nil, o, pairsOk, ↓bin_eql, ↓bin_neq, Nat.reduceAdd, Nat.reduceSub, Nat.reduceMul, Nat.reduceBEq, Nat.reduceLeDiff, ↓ite_not, ↓ite_tt, ↓ite_ff, ↓if_pos, ↓if_neg, stpO_ite, grdO_some, stpD_ite, grdD_some, pickO_bool, Nat.reduceLT, Nat.reduceDiv, Nat.reduceMod, condK_bool, regK_ite, drwK_some, drwK_ite]
  | n + 1, i, h0, hn => by
    have : maxLen = 9223372036854775807 := rfl
    have ih := sIndex_loop ws s hm n (i + 1) (by omega) (by omega)
    have o := o70_10100; simp only [OE, opsR, cqR, subR, chi, Try.f70] at o
    rw [loopC_round]
    simp only [rS] at ih
    simp +contextual (maxSteps := 4000000) (disch := first | assumption | omega) only [go_sem, rS, ih, drop_at, List.mem_cons, idxS, o, pairsOk, ↓bin_eql, ↓bin_neq, Nat.reduceAdd, Nat.reduceSub, Nat.reduceMul, Nat.reduceBEq, Nat.reduceLeDiff, ↓ite_not, ↓ite_tt, ↓ite_ff, ↓if_pos, ↓if_neg, stpO_ite, grdO_some, stpD_ite, grdD_some, pickO_bool, Nat.reduceLT, Nat.reduceDiv, Nat.reduceMod, condK_bool, regK_ite, drwK_some, drwK_ite]
    clear ih
    grind
theorem sIndex_ok (ws : List (List UInt8)) (s : List UInt8) (hm : ws.length ≤ maxLen) : fnL Try.prog T L0 70 [.c (.arr 0 0 ws.length), .c (.d (.v (.string (B (s)))))] [some (.arr 1 (rS ws))] = some (.one (.c (.d (.v (.int .i64 (if s ∈ ws then idxS s ws 0 else -1))))), [some (.arr 1 (rS ws))]) := by
  have L := sIndex_loop ws s hm ws.length 0 (by omega) (by omega)
  simp only [rS] at L
  refine fnL_run rfl N70 Try.func70 U70 ?_; have o := o70; simp only [OE, opsR, cqR, subR, chi, Try.f70] at o
  simp +contextual (maxSteps := 4000000) (disch := first | assumption | omega) only [go_sem, rS, L, o, pairsOk, ↓bin_eql, ↓bin_neq, Nat.reduceAdd, Nat.reduceSub, Nat.reduceMul, Nat.reduceBEq, Nat.reduceLeDiff, ↓ite_not, ↓ite_tt, ↓ite_ff, ↓if_pos, ↓if_neg, stpO_ite, grdO_some, stpD_ite, grdD_some, pickO_bool, Nat.reduceLT, Nat.reduceDiv, Nat.reduceMod, condK_bool, regK_ite, drwK_some, drwK_ite]
  clear L
  grind
theorem sContains_ok (ws : List (List UInt8)) (s : List UInt8) (hm : ws.length ≤ maxLen) : fnL Try.prog T L0 58 [.c (.arr 0 0 ws.length), .c (.d (.v (.string (B (s)))))] [some (.arr 1 (rS ws))] = some (.one (.c (.d (.v (.bool (decide (s ∈ ws)))))), [some (.arr 1 (rS ws))]) := by
  have h := idxS_ge s ws 0
  have L := sIndex_ok ws s hm
  simp only [rS] at L
  refine fnL_run rfl N58 Try.func58 U58 ?_; have o := o58; simp only [OE, opsR, cqR, subR, chi, Try.f58] at o
  simp +contextual (maxSteps := 4000000) (disch := first | assumption | omega) only [go_sem, rS, L, o, pairsOk, ↓bin_eql, ↓bin_neq, Nat.reduceAdd, Nat.reduceSub, Nat.reduceMul, Nat.reduceBEq, Nat.reduceLeDiff, ↓ite_not, ↓ite_tt, ↓ite_ff, ↓if_pos, ↓if_neg, stpO_ite, grdO_some, stpD_ite, grdD_some, pickO_bool, Nat.reduceLT, Nat.reduceDiv, Nat.reduceMod, condK_bool, regK_ite, drwK_some, drwK_ite]
  clear L
  by_cases hs : s ∈ ws
  · simp [hs, h hs]
  · simp [hs]
def words1 : List (List UInt8) := [[66, 69, 71, 73, 78], [69, 78, 68], [112, 114, 105, 110, 116], [110, 101, 120, 116], [100, 117, 109, 112], [105, 102], [101, 108, 115, 101], [78, 70], [78, 82], [108, 101, 110, 103, 116, 104]]
def words2 : List (List UInt8) := [[66, 69, 71, 73, 78], [69, 78, 68], [112, 114, 105, 110, 116], [110, 101, 120, 116], [100, 117, 109, 112], [105, 102], [101, 108, 115, 101], [108, 101, 110, 103, 116, 104], [78, 70], [78, 82]]
theorem isWordKept_ok (s : List UInt8) : fnL Try.prog T L0 51 [.c (.d (.v (.string (B (s)))))] [] = some (.one (.c (.d (.v (.bool (decide (s ∈ words1)))))), []) := by
  have L := sContains_ok [[66, 69, 71, 73, 78], [69, 78, 68], [112, 114, 105, 110, 116], [110, 101, 120, 116], [100, 117, 109, 112], [105, 102], [101, 108, 115, 101], [78, 70], [78, 82], [108, 101, 110, 103, 116, 104]] s (by decide)
  simp only [rS, List.map_cons, List.map_nil, List.length_cons, List.length_nil, Nat.reduceAdd] at L
  refine fnL_run rfl N51 Try.func51 U51 ?_; have o := o51; simp only [OE, opsR, cqR, subR, chi, Try.f51] at o
  simp +contextual (maxSteps := 4000000) (disch := first | assumption | omega) only [go_sem, L, o, pairsOk, ↓bin_eql, ↓bin_neq, Nat.reduceAdd, Nat.reduceSub, Nat.reduceMul, Nat.reduceBEq, Nat.reduceLeDiff, ↓ite_not, ↓ite_tt, ↓ite_ff, ↓if_pos, ↓if_neg, stpO_ite, grdO_some, stpD_ite, grdD_some, pickO_bool, Nat.reduceLT, Nat.reduceDiv, Nat.reduceMod, condK_bool, regK_ite, drwK_some, drwK_ite]
  rfl
theorem isName_ok (s : List UInt8) (hm : s.length ≤ maxLen) : fnL Try.prog T L0 39 [.c (.d (.v (.string (B (s)))))] [] = some (.one (.c (.d (.v (.bool ((s.all (fun b => isLet b) && decide (1 ≤ (s.length : Int) ∧ (s.length : Int) ≤ 8)) && !decide (s ∈ words1)))))), []) := by
  refine fnL_run rfl N39 Try.func39 U39 ?_; have o := o39; simp only [OE, opsR, cqR, subR, chi, Try.f39] at o
  simp +contextual (maxSteps := 4000000) (disch := first | assumption | omega) only [go_sem, isLetters_ok, isWordKept_ok, o, pairsOk, ↓bin_eql, ↓bin_neq, Nat.reduceAdd, Nat.reduceSub, Nat.reduceMul, Nat.reduceBEq, Nat.reduceLeDiff, ↓ite_not, ↓ite_tt, ↓ite_ff, ↓if_pos, ↓if_neg, stpO_ite, grdO_some, stpD_ite, grdD_some, pickO_bool, Nat.reduceLT, Nat.reduceDiv, Nat.reduceMod, condK_bool, regK_ite, drwK_some, drwK_ite]
  grind
theorem l06Name_loop1 (ws : List (List UInt8)) (s : List UInt8) (hl : ws.length = 10) : ∀ (n : Nat) (i : Int), 0 ≤ i → i + n = ws.length →
    loopC Try.prog T (fnL Try.prog T L0) 47 (cq g47 [0, 0, 1, 0, 1, 1]) ⟨[.one (.c (.d (.v (.string (B (s)))))), J, J, .one (.c (.arr 0 0 10)), .one (.c (.d (.v (.int .i64 (i))))), J, J, J, J, J, J, J, J, J, J, J, J, J, J, J, J, J, J, J, J, J, J, J, J, J, J, J, J], hpOf [some (.arr 1 (rS ws))], 1, 0⟩ =
      if s ∈ ws.drop i.toNat then some (.ret, ⟨[.one (.c (.d (.v (.string (B (s)))))), J, .one (.c (.d (.v (.bool (false))))), J, J, J, J, J, J, J, J, J, J, J, J, J, J, J, J, J, J, J, J, J, J, J, J, J, J, J, J, J, J], hpOf [], 0, 0⟩) else some (.exit 0, ⟨[.one (.c (.d (.v (.string (B (s)))))), J, J, J, J, J, J, J, J, J, J, J, J, J, J, J, J, J, J, J, J, J, J, J, J, J, J, J, J, J, J, J, J], hpOf [], 0, 0⟩)
  | 0, i, h0, hn => by
    have o := o47_110100; simp only [OE, opsR, cqR, subR, chi, Try.f47] at o
    rw [loopC_round]
    simp +contextual (maxSteps := 4000000) (disch := first | assumption | omega) only [go_sem, rS, hl, drop_end, List.not_mem_nil, o, pairsOk, ↓bin_eql, ↓bin_neq, Nat.reduceAdd, Nat.reduceSub, Nat.reduceMul, Nat.reduceBEq, Nat.reduceLeDiff, ↓ite_not, ↓ite_tt, ↓ite_ff, ↓if_pos, ↓if_neg, stpO_ite, grdO_some, stpD_ite, grdD_some, pickO_bool, Nat.reduceLT, Nat.reduceDiv, Nat.reduceMod, condK_bool, regK_ite, drwK_some, drwK_ite]
  | n + 1, i, h0, hn => by
    have ih := l06Name_loop1 ws s hl n (i + 1) (by omega) (by omega)
    have o := o47_110100; simp only [OE, opsR, cqR, subR, chi, Try.f47] at o
    rw [loopC_round]
    simp only [rS] at ih
    simp +contextual (maxSteps := 4000000) (disch := first | assumption | omega) only [go_sem, rS, hl, ih, drop_at, List.mem_cons, eq_comm (a := s), o, pairsOk, ↓bin_eql, ↓bin_neq, Nat.reduceAdd, Nat.reduceSub, Nat.reduceMul, Nat.reduceBEq, Nat.reduceLeDiff, ↓ite_not, ↓ite_tt, ↓ite_ff, ↓if_pos, ↓if_neg, stpO_ite, grdO_some, stpD_ite, grdD_some, pickO_bool, Nat.reduceLT, Nat.reduceDiv, Nat.reduceMod, condK_bool, regK_ite, drwK_some, drwK_ite]
    clear ih
    grind

theorem l06Name_loop (s : List UInt8) (hm : s.length ≤ maxLen) : ∀ (n : Nat) (i : Int), 0 ≤ i → i + n = s.length →
    loopC Try.prog T (fnL Try.prog T L0) 47 (cq g47 [0, 0, 1, 0, 1, 1, 1]) ⟨[.one (.c (.d (.v (.string (B (s)))))), J, J, J, J, .one (.c (.d (.v (.int .i64 (i))))), J, J, J, J, J, J, J, J, J, J, J, J, J, J, J, J, J, J, J, J, J, J, J, J, J, J, J], hpOf [], 0, 0⟩ =
      if (s.drop i.toNat).all (fun b => isLet b) = true then some (.exit 2, ⟨[.one (.c (.d (.v (.string (B (s)))))), J, J, J, J, J, J, J, J, J, J, J, J, J, J, J, J, J, J, J, J, J, J, J, J, J, J, J, J, J, J, J, J], hpOf [], 0, 0⟩) else some (.ret, ⟨[.one (.c (.d (.v (.string (B (s)))))), J, .one (.c (.d (.v (.bool (false))))), J, J, J, J, J, J, J, J, J, J, J, J, J, J, J, J, J, J, J, J, J, J, J, J, J, J, J, J, J, J], hpOf [], 0, 0⟩)
  | 0, i, h0, hn => by
    have : maxLen = 9223372036854775807 := rfl
    have o := o47_1110100; simp only [OE, opsR, cqR, subR, chi, Try.f47] at o
    rw [loopC_round]
    simp +contextual (maxSteps := 4000000) (disch := first | assumption | omega) only [go_sem, drop_end, List.all_nil, o, pairsOk, ↓bin_eql, ↓bin_neq, Nat.reduceAdd, Nat.reduceSub, Nat.reduceMul, Nat.reduceBEq, Nat.reduceLeDiff, ↓ite_not, ↓ite_tt, ↓ite_ff, ↓if_pos, ↓if_neg, stpO_ite, grdO_some, stpD_ite, grdD_some, pickO_bool, Nat.reduceLT, Nat.reduceDiv, Nat.reduceMod, condK_bool, regK_ite, drwK_some, drwK_ite]
  | n + 1, i, h0, hn => by
    have : maxLen = 9223372036854775807 := rfl
    have ih := l06Name_loop s hm n (i + 1) (by omega) (by omega)
    have o := o47_1110100; simp only [OE, opsR, cqR, subR, chi, Try.f47] at o
    rw [loopC_round]
    simp +contextual (maxSteps := 4000000) (disch := first | assumption | omega) only [go_sem, ih, drop_at, List.all_cons, l05Letter_ok, o, pairsOk, ↓bin_eql, ↓bin_neq, Nat.reduceAdd, Nat.reduceSub, Nat.reduceMul, Nat.reduceBEq, Nat.reduceLeDiff, ↓ite_not, ↓ite_tt, ↓ite_ff, ↓if_pos, ↓if_neg, stpO_ite, grdO_some, stpD_ite, grdD_some, pickO_bool, Nat.reduceLT, Nat.reduceDiv, Nat.reduceMod, condK_bool, regK_ite, drwK_some, drwK_ite]
    clear ih
    grind
theorem l06Name_ok (s : List UInt8) (hm : s.length ≤ maxLen) : fnL Try.prog T L0 47 [.c (.d (.v (.string (B (s)))))] [] = some (.one (.c (.d (.v (.bool ((s.all (fun b => isLet b) && decide (1 ≤ (s.length : Int) ∧ (s.length : Int) ≤ 8)) && !decide (s ∈ words2)))))), []) := by
  have L1 := l06Name_loop1 [[66, 69, 71, 73, 78], [69, 78, 68], [112, 114, 105, 110, 116], [110, 101, 120, 116], [100, 117, 109, 112], [105, 102], [101, 108, 115, 101], [108, 101, 110, 103, 116, 104], [78, 70], [78, 82]] s rfl 10 0 (by omega) rfl
  have L2 := l06Name_loop s hm s.length 0 (by omega) (by omega)
  simp only [rS, List.map_cons, List.map_nil] at L1
  refine fnL_run rfl N47 Try.func47 U47 ?_; have o := o47; simp only [OE, opsR, cqR, subR, chi, Try.f47] at o
  simp +contextual (maxSteps := 4000000) (disch := first | assumption | omega) only [go_sem, in_ok, L1, L2, words2, Int.toNat_zero, o, pairsOk, ↓bin_eql, ↓bin_neq, Nat.reduceAdd, Nat.reduceSub, Nat.reduceMul, Nat.reduceBEq, Nat.reduceLeDiff, ↓ite_not, ↓ite_tt, ↓ite_ff, ↓if_pos, ↓if_neg, stpO_ite, grdO_some, stpD_ite, grdD_some, pickO_bool, Nat.reduceLT, Nat.reduceDiv, Nat.reduceMod, condK_bool, regK_ite, drwK_some, drwK_ite]
  clear L1 L2
  grind
def signs : List UInt8 := [42, 43, 63, 124, 40, 41, 91, 93, 46, 94, 36, 92]
theorem l04Special_loop (ws : List UInt8) (b : UInt8) (hl : ws.length = 12) : ∀ (n : Nat) (i : Int), 0 ≤ i → i + n = ws.length →
    loopC Try.prog T (fnL Try.prog T L0) 87 (cq g87 [0, 0, 1, 0, 1, 1]) ⟨[.one (.c (.d (.v (.int .u8 ((b.toNat : Int)))))), J, J, .one (.c (.d (.v (.string (B (ws)))))), .one (.c (.d (.v (.int .i64 (i))))), J, J, J, J, J, J, J, J, J, J, J], hpOf [], 0, 0⟩ =
      if (ws.drop i.toNat).any (fun c => decide ((c.toNat : Int) = (b.toNat : Int))) = true then some (.ret, ⟨[J, J, .one (.c (.d (.v (.bool (true))))), J, J, J, J, J, J, J, J, J, J, J, J, J], hpOf [], 0, 0⟩) else some (.exit 0, ⟨[J, J, J, J, J, J, J, J, J, J, J, J, J, J, J, J], hpOf [], 0, 0⟩)
  | 0, i, h0, hn => by
    have o := o87_110100; simp only [OE, opsR, cqR, subR, chi, Try.f87] at o
    rw [loopC_round]
    simp +contextual (maxSteps := 4000000) (disch := first | assumption | omega) only [go_sem, hl, drop_end, List.any_nil, o, pairsOk, ↓bin_eql, ↓bin_neq, Nat.reduceAdd, Nat.reduceSub, Nat.reduceMul, Nat.reduceBEq, Nat.reduceLeDiff, ↓ite_not, ↓ite_tt, ↓ite_ff, ↓if_pos, ↓if_neg, stpO_ite, grdO_some, stpD_ite, grdD_some, pickO_bool, Nat.reduceLT, Nat.reduceDiv, Nat.reduceMod, condK_bool, regK_ite, drwK_some, drwK_ite]
  | n + 1, i, h0, hn => by
    have ih := l04Special_loop ws b hl n (i + 1) (by omega) (by omega)
    have o := o87_110100; simp only [OE, opsR, cqR, subR, chi, Try.f87] at o
    rw [loopC_round]
    simp +contextual (maxSteps := 4000000) (disch := first | assumption | omega) only [go_sem, hl, ih, drop_at, List.any_cons, o, pairsOk, ↓bin_eql, ↓bin_neq, Nat.reduceAdd, Nat.reduceSub, Nat.reduceMul, Nat.reduceBEq, Nat.reduceLeDiff, ↓ite_not, ↓ite_tt, ↓ite_ff, ↓if_pos, ↓if_neg, stpO_ite, grdO_some, stpD_ite, grdD_some, pickO_bool, Nat.reduceLT, Nat.reduceDiv, Nat.reduceMod, condK_bool, regK_ite, drwK_some, drwK_ite]
    clear ih
    grind
theorem l04Special_ok (b : UInt8) : fnL Try.prog T L0 87 [.c (.d (.v (.int .u8 ((b.toNat : Int)))))] [] = some (.one (.c (.d (.v (.bool (signs.any (fun c => decide ((c.toNat : Int) = (b.toNat : Int)))))))), []) := by
  have L := l04Special_loop [42, 43, 63, 124, 40, 41, 91, 93, 46, 94, 36, 92] b rfl 12 0 (by omega) rfl
  rw [Int.toNat_zero, List.drop_zero] at L
  unfold signs
  generalize List.any ([42, 43, 63, 124, 40, 41, 91, 93, 46, 94, 36, 92] : List UInt8) (fun c : UInt8 => decide ((c.toNat : Int) = (b.toNat : Int))) = t at L ⊢
  cases t
  all_goals
    simp only [if_true, if_false, Bool.false_eq_true] at L
    refine fnL_run rfl N87 Try.func87 U87 ?_; have o := o87; simp only [OE, opsR, cqR, subR, chi, Try.f87] at o
    simp +contextual (maxSteps := 4000000) (disch := first | assumption | omega) only [go_sem, L, o, pairsOk, ↓bin_eql, ↓bin_neq, Nat.reduceAdd, Nat.reduceSub, Nat.reduceMul, Nat.reduceBEq, Nat.reduceLeDiff, ↓ite_not, ↓ite_tt, ↓ite_ff, ↓if_pos, ↓if_neg, stpO_ite, grdO_some, stpD_ite, grdD_some, pickO_bool, Nat.reduceLT, Nat.reduceDiv, Nat.reduceMod, condK_bool, regK_ite, drwK_some, drwK_ite]
end
end Go.Vsi
