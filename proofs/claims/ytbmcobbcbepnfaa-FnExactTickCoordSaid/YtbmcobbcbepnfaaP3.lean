/- What the functions of the program, of the reference and of the law do (a part of it). -/
import Derived.Test.YtbmcobbcbepnfaaP2
namespace Go.Vsi
open Go.Proofs
noncomputable section
set_option maxRecDepth 100000
set_option maxHeartbeats 4000000
set_option linter.unusedSimpArgs false
set_option linter.unusedVariables false
attribute [local go_sem] List.isEmpty_nil Bool.true_or Bool.and_true Bool.and_self Bool.false_eq_true Bool.not_true Bool.not_false List.set_cons_zero List.set_cons_succ frzSt wantedA evA constW ofVal plain oneOf noUp toVal cellVal putA startA List.length_cons List.length_nil List.map_cons List.map_nil List.replicate List.cons_append List.nil_append List.getElem?_cons_succ List.getElem?_cons_zero List.getElem?_toArray List.set upd Option.bind resA resOne giveA seenOf idsAt reach renH renW renV renS renB idsW idsV idsS frzW frzV frzS List.filter_nil List.range_zero List.flatMap_nil List.flatMap_cons List.append_nil List.range List.range.loop sliceLen intV List.length_map one partA ordOf canon junkBut List.elem_cons List.elem_nil Bool.false_or Bool.or_false Bool.or_true cond_true cond_false firstReg evL opTmps footA cut callOk List.all_nil List.all_cons Op.operands Array.toList List.filterMap_cons List.filterMap_nil lendCall ownCall lendVs lendV lendS plainW plainV plainS List.zipIdx_nil hpOf Array.toList_map idsB natBle beq_self_eq_true Int.toNat_natCast Option.map_some Option.map_none ix cellsV Nat.zero_add List.any_nil List.any_cons List.take_zero List.take_succ_cons List.take_nil List.drop_succ_cons List.drop_zero List.drop_nil toD toDs List.filter_cons Nat.zero_le Nat.le_refl frzH ite_true ite_false if_true if_false stpO_some opsO_nil opsO_cons stpD_some nthD_some drawO_nil drawO_cons decTrue decFalse callA natBeq decT decF B_size B_mk B_empty B_append B_extract decide_eq_true_eq Bool.not_eq_true' decide_eq_false_iff_not Bool.and_eq_true Bool.or_eq_true boundsA sliceA B_toList Bool.and_false Bool.false_and Bool.true_and backOf List.zipIdx_cons Option.getD_some Option.getD_none Nat.sub_self fillA rowsOf toRows List.flatten_cons List.flatten_nil appendA sliceRows lendSs capPtr opO_pick opO_move opO_assign opO_extract opO_nilCheck opO_unOp opO_binOp opO_convert opO_index opO_field opO_alloc opO_box opO_build opO_buildSlice opO_makeSlice opO_load opO_store opO_fieldAddr opO_indexAddr opO_slice opO_makeFunc opO_builtin opO_fn regK_some lopK_some lopK_ite map_get endA preK_some preA_cons preA_nil thenP_some pre1 preId preRow narRow narCell outOf dropOut setO renO toO toOs toRowsO nodupB isArrS nestT appendN narOuts O.flat Int.natCast_nonneg decide_true decide_false preR_some preD_some condK_true condK_false grdO_true grdO_false grdD_true grdD_false pickO_true pickO_false if_pos if_neg eqI_self eqI_t eqI_f true_and and_true and_self not_true_eq_false not_false_eq_true Bool.not_not Go.Call.operands closedB List.all_append List.filterMap_append Array.toList_append List.flatMap_append Bool.or_self List.getElem?_nil Bool.true_beq Bool.false_beq G13 I3 S3 C3 A3 B3 Try.underlying3 Z3 I9 S9 C9 A9 B9 Try.underlying9 Z9 I26 S26 C26 A26 B26 Try.underlying26 E26 Z26 I27 S27 C27 A27 B27 Try.underlying27 E27 Z27 I29 S29 C29 A29 B29 Try.underlying29 Z29 I89 S89 C89 A89 B89 Try.underlying89 Z89 I92 S92 C92 A92 B92 Try.underlying92 Z92 H34 Y34 H35 Y35 R13 M13 G11 I22 S22 C22 A22 B22 Try.underlying22 E22 Z22 I23 S23 C23 A23 B23 Try.underlying23 E23 Z23 I25 S25 C25 A25 B25 Try.underlying25 Z25 I96 S96 C96 A96 B96 Try.underlying96 Z96 H12 Y12 H33 Y33 R11 M11 G36 I4 S4 C4 A4 B4 Try.underlying4 Z4 I70 S70 C70 A70 B70 Try.underlying70 Z70 H13 Y13 R36 M36 G14 I30 S30 C30 A30 B30 Try.underlying30 E30 Z30 K14_5 O14_5 H36 Y36 R14 M14 G4 I32 S32 C32 A32 B32 Try.underlying32 Z32 H11 Y11 H14 Y14 R4 M4
attribute [local go_sem ↓] ite_dec popK_nil popK_seq popK_seqE popK_seqR popK_blk popK_blkR popK_blkE endF_normal endF_ret q13_ q13_0 q13_1 q13_10 q13_11 q13_110 q13_1100 q13_1101 q13_11010 q13_110100 q13_110101 q13_11011 q13_111 q13_1110 q13_1111 q13_11110 q13_111100 q13_111101 q13_1111010 q13_11110100 q13_11110101 q13_1111011 q13_11111 q13_111110 q13_111111 q13_1111110 q13_11111100 q13_11111101 q13_111111010 q13_1111110100 q13_1111110101 q13_111111011 q13_1111111 q13_11111110 q13_11111111 q11_ q11_0 q11_1 q11_10 q11_11 q11_110 q11_1100 q11_1101 q11_11010 q11_110100 q11_110101 q11_11011 q11_111 q11_1110 q11_1111 q11_11110 q11_111100 q11_111101 q11_1111010 q11_11110100 q11_11110101 q11_1111011 q11_11111 q11_111110 q11_111111 q36_ q36_0 q36_1 q36_10 q36_11 q36_110 q36_1100 q36_1101 q36_11010 q36_110100 q36_110101 q36_11011 q36_111 q36_1110 q36_1111 q36_11110 q36_111100 q36_111101 q36_1111010 q36_11110100 q36_11110101 q36_1111011 q36_11111 q36_111110 q36_111111 q14_ q14_0 q14_1 q14_10 q14_11 q14_110 q14_1100 q14_1101 q14_11010 q14_110100 q14_110101 q14_11011 q14_111 q14_1110 q14_11100 q14_11101 q14_111010 q14_1110100 q14_11101000 q14_111010000 q14_111010001 q14_1110100010 q14_1110100011 q14_11101001 q14_111010010 q14_1110100100 q14_11101001000 q14_11101001001 q14_111010010010 q14_111010010011 q14_1110100100110 q14_11101001001100 q14_11101001001101 q14_1110100100111 q14_111010011 q14_1111 q14_11110 q14_11111 q4_ q4_0 q4_1 q4_10 q4_11 q4_110 q4_1100 q4_1101 q4_11010 q4_110100 q4_110101 q4_11011 q4_111 q4_1110 q4_1111 q4_11110 q4_111100 q4_111101 q4_1111010 q4_11110100 q4_11110101 q4_1111011 q4_11111 q4_111110 q4_111111 q4_1111110 q4_11111100 q4_11111101 q4_111111010 q4_1111110100 q4_1111110101 q4_111111011 q4_1111111 q4_11111110 q4_11111111 q4_111111110 q4_1111111100 q4_1111111101 q4_11111111010 q4_111111110100 q4_111111110101 q4_11111111011 q4_111111111 q4_1111111110 q4_1111111111 q4_11111111110 q4_111111111100 q4_111111111101 q4_1111111111010 q4_11111111110100 q4_11111111110101 q4_1111111111011 q4_11111111111 q4_111111111110 q4_111111111111 bin_add bin_sub bin_mul bin_lss bin_leq bin_gtr bin_geq un_not min_int max_int wrap64' wrap_u8 wrap_i32 wrap64_byte wrap8_byte wrap32_byte bin_eqB bin_neB bin_addB LN9
theorem szStore_ok (x : GStore) (l : Int) (hl : 0 ≤ l ∧ l ≤ 1048576) (hx : GStore.ok x) : fnL Try.prog T L0 13 [.agg (x.enc.map .d), .c (.d (.v (.int .i64 (l))))] [] = some (.one (.c (.d (.v (.int .i64 (szr l (tStore x)))))), []) := by
  obtain ⟨⟨w1, w2⟩, ⟨w3, w4⟩, w5⟩ := hx
  have : maxLen = 9223372036854775807 := rfl
  have g0 := fun l h => szVarS_ok x.Vars l h w1 w2
  have z0 := tV_ge x.Vars
  have g1 := fun l h => szCellS_ok x.Cells l h w3 w4
  have z1 := tC_ge x.Cells
  obtain ⟨a0, e0⟩ : ∃ a : Int, a = x.Vars.length + tV x.Vars := ⟨_, rfl⟩
  rw [← e0] at g0
  obtain ⟨a1, e1⟩ : ∃ a : Int, a = x.Cells.length + tC x.Cells := ⟨_, rfl⟩
  rw [← e1] at g1
  have et : tStore x = a0 + a1 + (x.Out.length : Int) := by unfold tStore; omega
  have p0 : 0 ≤ a0 := by omega
  have p1 : 0 ≤ a1 := by omega
  rw [et]
  clear z0 z1 e0 e1 et
  by_cases c0 : l < a0
  · rw [szr_lt (by omega)]
    clear g1
    have q0 := g0 (l) (by omega)
    rw [szr_lt c0] at q0
    clear g0
    refine fnL_run rfl N13 Try.func13 U13 ?_; have o := o13; simp only [OE, opsR, cqR, subR, chi, Try.f13] at o
    simp only [encStore, List.map_cons, List.map_nil]
    (try simp (maxSteps := 4000000) (disch := first | assumption | omega) only [go_sem, *, q0, o, ↓bin_eqI, ↓bin_neI, Nat.reduceAdd, Nat.reduceSub, Nat.reduceMul, Nat.reduceBEq, Nat.reduceLeDiff, Nat.reduceLT, Nat.reduceDiv, Nat.reduceMod]); repeat' ((first | with_reducible first | refine caK (fun hb => ?_) fun hb => ?_ | refine caG (fun hb => ?_) fun hb => ?_ | refine caP (fun hb => ?_) fun hb => ?_ | refine caH (fun hb => ?_) fun hb => ?_ | refine caQ (fun hb => ?_) fun hb => ?_ | refine ite_cases (fun hb => ?_) fun hb => ?_ | rw [drwK_ok rfl]) <;> try simp (maxSteps := 4000000) (disch := first | assumption | omega) only [go_sem, *, q0, o, ↓bin_eqI, ↓bin_neI, Nat.reduceAdd, Nat.reduceSub, Nat.reduceMul, Nat.reduceBEq, Nat.reduceLeDiff, Nat.reduceLT, Nat.reduceDiv, Nat.reduceMod])
  · skip
    have q0 := g0 (l) (by omega)
    rw [szr_ge c0] at q0
    clear g0
    by_cases c1 : l - a0 < a1
    · rw [szr_lt (by omega)]
      have q1 := g1 (l - a0) (by omega)
      rw [szr_lt c1] at q1
      clear g1
      refine fnL_run rfl N13 Try.func13 U13 ?_; have o := o13; simp only [OE, opsR, cqR, subR, chi, Try.f13] at o
      simp only [encStore, List.map_cons, List.map_nil]
      (try simp (maxSteps := 4000000) (disch := first | assumption | omega) only [go_sem, *, q0, q1, o, ↓bin_eqI, ↓bin_neI, Nat.reduceAdd, Nat.reduceSub, Nat.reduceMul, Nat.reduceBEq, Nat.reduceLeDiff, Nat.reduceLT, Nat.reduceDiv, Nat.reduceMod]); repeat' ((first | with_reducible first | refine caK (fun hb => ?_) fun hb => ?_ | refine caG (fun hb => ?_) fun hb => ?_ | refine caP (fun hb => ?_) fun hb => ?_ | refine caH (fun hb => ?_) fun hb => ?_ | refine caQ (fun hb => ?_) fun hb => ?_ | refine ite_cases (fun hb => ?_) fun hb => ?_ | rw [drwK_ok rfl]) <;> try simp (maxSteps := 4000000) (disch := first | assumption | omega) only [go_sem, *, q0, q1, o, ↓bin_eqI, ↓bin_neI, Nat.reduceAdd, Nat.reduceSub, Nat.reduceMul, Nat.reduceBEq, Nat.reduceLeDiff, Nat.reduceLT, Nat.reduceDiv, Nat.reduceMod])
    · skip
      have q1 := g1 (l - a0) (by omega)
      rw [szr_ge c1] at q1
      clear g1
      by_cases c2 : l - a0 - a1 < (x.Out.length : Int)
      · rw [szr_lt (by omega)]
        refine fnL_run rfl N13 Try.func13 U13 ?_; have o := o13; simp only [OE, opsR, cqR, subR, chi, Try.f13] at o
        simp only [encStore, List.map_cons, List.map_nil]
        (try simp (maxSteps := 4000000) (disch := first | assumption | omega) only [go_sem, *, q0, q1, o, ↓bin_eqI, ↓bin_neI, Nat.reduceAdd, Nat.reduceSub, Nat.reduceMul, Nat.reduceBEq, Nat.reduceLeDiff, Nat.reduceLT, Nat.reduceDiv, Nat.reduceMod]); repeat' ((first | with_reducible first | refine caK (fun hb => ?_) fun hb => ?_ | refine caG (fun hb => ?_) fun hb => ?_ | refine caP (fun hb => ?_) fun hb => ?_ | refine caH (fun hb => ?_) fun hb => ?_ | refine caQ (fun hb => ?_) fun hb => ?_ | refine ite_cases (fun hb => ?_) fun hb => ?_ | rw [drwK_ok rfl]) <;> try simp (maxSteps := 4000000) (disch := first | assumption | omega) only [go_sem, *, q0, q1, o, ↓bin_eqI, ↓bin_neI, Nat.reduceAdd, Nat.reduceSub, Nat.reduceMul, Nat.reduceBEq, Nat.reduceLeDiff, Nat.reduceLT, Nat.reduceDiv, Nat.reduceMod])
      · skip
        rw [szr_ge (by omega), show l - (a0 + a1 + (x.Out.length : Int)) = l - a0 - a1 - (x.Out.length : Int) by omega]
        refine fnL_run rfl N13 Try.func13 U13 ?_; have o := o13; simp only [OE, opsR, cqR, subR, chi, Try.f13] at o
        simp only [encStore, List.map_cons, List.map_nil]
        (try simp (maxSteps := 4000000) (disch := first | assumption | omega) only [go_sem, *, q0, q1, o, ↓bin_eqI, ↓bin_neI, Nat.reduceAdd, Nat.reduceSub, Nat.reduceMul, Nat.reduceBEq, Nat.reduceLeDiff, Nat.reduceLT, Nat.reduceDiv, Nat.reduceMod]); repeat' ((first | with_reducible first | refine caK (fun hb => ?_) fun hb => ?_ | refine caG (fun hb => ?_) fun hb => ?_ | refine caP (fun hb => ?_) fun hb => ?_ | refine caH (fun hb => ?_) fun hb => ?_ | refine caQ (fun hb => ?_) fun hb => ?_ | refine ite_cases (fun hb => ?_) fun hb => ?_ | rw [drwK_ok rfl]) <;> try simp (maxSteps := 4000000) (disch := first | assumption | omega) only [go_sem, *, q0, q1, o, ↓bin_eqI, ↓bin_neI, Nat.reduceAdd, Nat.reduceSub, Nat.reduceMul, Nat.reduceBEq, Nat.reduceLeDiff, Nat.reduceLT, Nat.reduceDiv, Nat.reduceMod])
theorem szCode_ok (x : GCode) (l : Int) (hl : 0 ≤ l ∧ l ≤ 1048576) (hx : GCode.ok x) : fnL Try.prog T L0 11 [.agg (x.enc.map .d), .c (.d (.v (.int .i64 (l))))] [] = some (.one (.c (.d (.v (.int .i64 (szr l (tCode x)))))), []) := by
  obtain ⟨⟨w1, w2⟩, ⟨w3, w4⟩, w5⟩ := hx
  have : maxLen = 9223372036854775807 := rfl
  have g0 := fun l h => szStringS_ok x.Texts l h w1 w2
  have z0 := tS_ge x.Texts
  have g1 := fun l h => szInstrS_ok x.List l h w3
  obtain ⟨a0, e0⟩ : ∃ a : Int, a = x.Texts.length + tS x.Texts := ⟨_, rfl⟩
  rw [← e0] at g0
  obtain ⟨a1, e1⟩ : ∃ a : Int, a = (x.List.length : Int) := ⟨_, rfl⟩
  rw [← e1] at g1
  have et : tCode x = a0 + a1 := by unfold tCode; omega
  have p0 : 0 ≤ a0 := by omega
  have p1 : 0 ≤ a1 := by omega
  rw [et]
  clear z0 e0 e1 et
  by_cases c0 : l < a0
  · rw [szr_lt (by omega)]
    clear g1
    have q0 := g0 (l) (by omega)
    rw [szr_lt c0] at q0
    clear g0
    refine fnL_run rfl N11 Try.func11 U11 ?_; have o := o11; simp only [OE, opsR, cqR, subR, chi, Try.f11] at o
    simp only [encCode, List.map_cons, List.map_nil]
    (try simp (maxSteps := 4000000) (disch := first | assumption | omega) only [go_sem, *, q0, o, ↓bin_eqI, ↓bin_neI, Nat.reduceAdd, Nat.reduceSub, Nat.reduceMul, Nat.reduceBEq, Nat.reduceLeDiff, Nat.reduceLT, Nat.reduceDiv, Nat.reduceMod]); repeat' ((first | with_reducible first | refine caK (fun hb => ?_) fun hb => ?_ | refine caG (fun hb => ?_) fun hb => ?_ | refine caP (fun hb => ?_) fun hb => ?_ | refine caH (fun hb => ?_) fun hb => ?_ | refine caQ (fun hb => ?_) fun hb => ?_ | refine ite_cases (fun hb => ?_) fun hb => ?_ | rw [drwK_ok rfl]) <;> try simp (maxSteps := 4000000) (disch := first | assumption | omega) only [go_sem, *, q0, o, ↓bin_eqI, ↓bin_neI, Nat.reduceAdd, Nat.reduceSub, Nat.reduceMul, Nat.reduceBEq, Nat.reduceLeDiff, Nat.reduceLT, Nat.reduceDiv, Nat.reduceMod])
  · skip
    have q0 := g0 (l) (by omega)
    rw [szr_ge c0] at q0
    clear g0
    by_cases c1 : l - a0 < a1
    · rw [szr_lt (by omega)]
      have q1 := g1 (l - a0) (by omega)
      rw [szr_lt c1] at q1
      clear g1
      refine fnL_run rfl N11 Try.func11 U11 ?_; have o := o11; simp only [OE, opsR, cqR, subR, chi, Try.f11] at o
      simp only [encCode, List.map_cons, List.map_nil]
      (try simp (maxSteps := 4000000) (disch := first | assumption | omega) only [go_sem, *, q0, q1, o, ↓bin_eqI, ↓bin_neI, Nat.reduceAdd, Nat.reduceSub, Nat.reduceMul, Nat.reduceBEq, Nat.reduceLeDiff, Nat.reduceLT, Nat.reduceDiv, Nat.reduceMod]); repeat' ((first | with_reducible first | refine caK (fun hb => ?_) fun hb => ?_ | refine caG (fun hb => ?_) fun hb => ?_ | refine caP (fun hb => ?_) fun hb => ?_ | refine caH (fun hb => ?_) fun hb => ?_ | refine caQ (fun hb => ?_) fun hb => ?_ | refine ite_cases (fun hb => ?_) fun hb => ?_ | rw [drwK_ok rfl]) <;> try simp (maxSteps := 4000000) (disch := first | assumption | omega) only [go_sem, *, q0, q1, o, ↓bin_eqI, ↓bin_neI, Nat.reduceAdd, Nat.reduceSub, Nat.reduceMul, Nat.reduceBEq, Nat.reduceLeDiff, Nat.reduceLT, Nat.reduceDiv, Nat.reduceMod])
    · skip
      have q1 := g1 (l - a0) (by omega)
      rw [szr_ge c1] at q1
      clear g1
      rw [szr_ge (by omega), show l - (a0 + a1) = l - a0 - a1 by omega]
      refine fnL_run rfl N11 Try.func11 U11 ?_; have o := o11; simp only [OE, opsR, cqR, subR, chi, Try.f11] at o
      simp only [encCode, List.map_cons, List.map_nil]
      (try simp (maxSteps := 4000000) (disch := first | assumption | omega) only [go_sem, *, q0, q1, o, ↓bin_eqI, ↓bin_neI, Nat.reduceAdd, Nat.reduceSub, Nat.reduceMul, Nat.reduceBEq, Nat.reduceLeDiff, Nat.reduceLT, Nat.reduceDiv, Nat.reduceMod]); repeat' ((first | with_reducible first | refine caK (fun hb => ?_) fun hb => ?_ | refine caG (fun hb => ?_) fun hb => ?_ | refine caP (fun hb => ?_) fun hb => ?_ | refine caH (fun hb => ?_) fun hb => ?_ | refine caQ (fun hb => ?_) fun hb => ?_ | refine ite_cases (fun hb => ?_) fun hb => ?_ | rw [drwK_ok rfl]) <;> try simp (maxSteps := 4000000) (disch := first | assumption | omega) only [go_sem, *, q0, q1, o, ↓bin_eqI, ↓bin_neI, Nat.reduceAdd, Nat.reduceSub, Nat.reduceMul, Nat.reduceBEq, Nat.reduceLeDiff, Nat.reduceLT, Nat.reduceDiv, Nat.reduceMod])
theorem szStore_sl (x : GStore) (l : Int) (hl : 0 ≤ l ∧ l ≤ 1048576) (hx : GStore.ok x) : fnL Try.prog T L0 13 [.agg [.d (.sl 2 (rV x.Vars)), .d (.sl 3 (rC x.Cells)), .d (.v (.string (B (x.Out))))], .c (.d (.v (.int .i64 (l))))] [] = some (.one (.c (.d (.v (.int .i64 (szr l (tStore x)))))), []) := szStore_ok x l hl hx
theorem szCode_sl (x : GCode) (l : Int) (hl : 0 ≤ l ∧ l ≤ 1048576) (hx : GCode.ok x) : fnL Try.prog T L0 11 [.agg [.d (.sl 1 (rS x.Texts)), .d (.sl 2 (rIn x.List)), .d (.v (.int .i64 (x.Begin))), .d (.v (.int .i64 (x.Line))), .d (.v (.int .i64 (x.End)))], .c (.d (.v (.int .i64 (l))))] [] = some (.one (.c (.d (.v (.int .i64 (szr l (tCode x)))))), []) := szCode_ok x l hl hx
theorem szTask_ok (x : GTask) (l : Int) (hl : 0 ≤ l ∧ l ≤ 1048576) (hx : GTask.ok x) : fnL Try.prog T L0 36 [.agg (x.enc.map .d), .c (.d (.v (.int .i64 (l))))] [] = some (.one (.c (.d (.v (.int .i64 (szr l (tET x)))))), []) := by
  obtain ⟨⟨w1, w2⟩, w3, w4, w5, w6⟩ := hx
  have : maxLen = 9223372036854775807 := rfl
  have g0 := fun l h => szStringS_ok x.Lines l h w1 w2
  have z0 := tS_ge x.Lines
  have g1 := fun l h => szStore_sl x.Delta l h w6
  have z1 := tStore_ge x.Delta
  obtain ⟨a0, e0⟩ : ∃ a : Int, a = x.Lines.length + tS x.Lines := ⟨_, rfl⟩
  rw [← e0] at g0
  obtain ⟨a1, e1⟩ : ∃ a : Int, a = tStore x.Delta := ⟨_, rfl⟩
  rw [← e1] at g1
  have et : tET x = a0 + a1 := by unfold tET; omega
  have p0 : 0 ≤ a0 := by omega
  have p1 : 0 ≤ a1 := by omega
  rw [et]
  clear z0 z1 e0 e1 et
  by_cases c0 : l < a0
  · rw [szr_lt (by omega)]
    clear g1
    have q0 := g0 (l) (by omega)
    rw [szr_lt c0] at q0
    clear g0
    refine fnL_run rfl N36 Try.func36 U36 ?_; have o := o36; simp only [OE, opsR, cqR, subR, chi, Try.f36] at o
    simp only [encTask, List.map_cons, List.map_nil]
    (try simp (maxSteps := 4000000) (disch := first | assumption | omega) only [go_sem, *, q0, o, ↓bin_eqI, ↓bin_neI, Nat.reduceAdd, Nat.reduceSub, Nat.reduceMul, Nat.reduceBEq, Nat.reduceLeDiff, Nat.reduceLT, Nat.reduceDiv, Nat.reduceMod]); repeat' ((first | with_reducible first | refine caK (fun hb => ?_) fun hb => ?_ | refine caG (fun hb => ?_) fun hb => ?_ | refine caP (fun hb => ?_) fun hb => ?_ | refine caH (fun hb => ?_) fun hb => ?_ | refine caQ (fun hb => ?_) fun hb => ?_ | refine ite_cases (fun hb => ?_) fun hb => ?_ | rw [drwK_ok rfl]) <;> try simp (maxSteps := 4000000) (disch := first | assumption | omega) only [go_sem, *, q0, o, ↓bin_eqI, ↓bin_neI, Nat.reduceAdd, Nat.reduceSub, Nat.reduceMul, Nat.reduceBEq, Nat.reduceLeDiff, Nat.reduceLT, Nat.reduceDiv, Nat.reduceMod])
  · skip
    have q0 := g0 (l) (by omega)
    rw [szr_ge c0] at q0
    clear g0
    by_cases c1 : l - a0 < a1
    · rw [szr_lt (by omega)]
      have q1 := g1 (l - a0) (by omega)
      rw [szr_lt c1] at q1
      clear g1
      refine fnL_run rfl N36 Try.func36 U36 ?_; have o := o36; simp only [OE, opsR, cqR, subR, chi, Try.f36] at o
      simp only [encTask, List.map_cons, List.map_nil]
      (try simp (maxSteps := 4000000) (disch := first | assumption | omega) only [go_sem, *, q0, q1, o, ↓bin_eqI, ↓bin_neI, Nat.reduceAdd, Nat.reduceSub, Nat.reduceMul, Nat.reduceBEq, Nat.reduceLeDiff, Nat.reduceLT, Nat.reduceDiv, Nat.reduceMod]); repeat' ((first | with_reducible first | refine caK (fun hb => ?_) fun hb => ?_ | refine caG (fun hb => ?_) fun hb => ?_ | refine caP (fun hb => ?_) fun hb => ?_ | refine caH (fun hb => ?_) fun hb => ?_ | refine caQ (fun hb => ?_) fun hb => ?_ | refine ite_cases (fun hb => ?_) fun hb => ?_ | rw [drwK_ok rfl]) <;> try simp (maxSteps := 4000000) (disch := first | assumption | omega) only [go_sem, *, q0, q1, o, ↓bin_eqI, ↓bin_neI, Nat.reduceAdd, Nat.reduceSub, Nat.reduceMul, Nat.reduceBEq, Nat.reduceLeDiff, Nat.reduceLT, Nat.reduceDiv, Nat.reduceMod])
    · skip
      have q1 := g1 (l - a0) (by omega)
      rw [szr_ge c1] at q1
      clear g1
      rw [szr_ge (by omega), show l - (a0 + a1) = l - a0 - a1 by omega]
      refine fnL_run rfl N36 Try.func36 U36 ?_; have o := o36; simp only [OE, opsR, cqR, subR, chi, Try.f36] at o
      simp only [encTask, List.map_cons, List.map_nil]
      (try simp (maxSteps := 4000000) (disch := first | assumption | omega) only [go_sem, *, q0, q1, o, ↓bin_eqI, ↓bin_neI, Nat.reduceAdd, Nat.reduceSub, Nat.reduceMul, Nat.reduceBEq, Nat.reduceLeDiff, Nat.reduceLT, Nat.reduceDiv, Nat.reduceMod]); repeat' ((first | with_reducible first | refine caK (fun hb => ?_) fun hb => ?_ | refine caG (fun hb => ?_) fun hb => ?_ | refine caP (fun hb => ?_) fun hb => ?_ | refine caH (fun hb => ?_) fun hb => ?_ | refine caQ (fun hb => ?_) fun hb => ?_ | refine ite_cases (fun hb => ?_) fun hb => ?_ | rw [drwK_ok rfl]) <;> try simp (maxSteps := 4000000) (disch := first | assumption | omega) only [go_sem, *, q0, q1, o, ↓bin_eqI, ↓bin_neI, Nat.reduceAdd, Nat.reduceSub, Nat.reduceMul, Nat.reduceBEq, Nat.reduceLeDiff, Nat.reduceLT, Nat.reduceDiv, Nat.reduceMod])

theorem szTaskS_loop (xs : List GTask) (hx : xs.length ≤ 1048576) (hok : ∀ x ∈ xs, GTask.ok x) : ∀ (m : Nat) (i l : Int), 0 ≤ i → i + m = xs.length → 0 ≤ l ∧ l ≤ 1048576 →
    loopC Try.prog T (fnL Try.prog T L0) 14 (cq g14 [0, 0, 1, 0, 1, 1, 1]) ⟨[.one (.c (.d (.sl 7 (rT xs)))), .one (.c (.d (.v (.int .i64 (l))))), J, J, J, .one (.c (.d (.v (.int .i64 (i))))), J, J, J, J, J, J, J, J, J, J, J, J, J, J, J, J, J, J, J, J, J], hpOf [], 0, 0⟩ =
      if l < tT (xs.drop i.toNat) then some (.ret, ⟨[J, .one (.c (.d (.v (.int .i64 (-1))))), J, J, .one (.c (.d (.v (.int .i64 (-1))))), J, J, J, J, J, J, J, J, J, J, J, J, J, J, J, J, J, J, J, J, J, J], hpOf [], 0, 0⟩) else some (.exit 0, ⟨[J, .one (.c (.d (.v (.int .i64 (l - tT (xs.drop i.toNat)))))), J, J, J, J, J, J, J, J, J, J, J, J, J, J, J, J, J, J, J, J, J, J, J, J, J], hpOf [], 0, 0⟩)
  | 0, i, l, h0, hm, hl => by
    rw [drop_end xs i (by omega), tT, if_neg (by omega), Int.sub_zero]
    clear hok
    have o := o14_1110100; simp only [OE, opsR, cqR, subR, chi, Try.f14] at o
    rw [loopC_round]
    (try simp (maxSteps := 4000000) (disch := first | assumption | omega) only [go_sem, *, rT_len, o, ↓bin_eqI, ↓bin_neI, Nat.reduceAdd, Nat.reduceSub, Nat.reduceMul, Nat.reduceBEq, Nat.reduceLeDiff, Nat.reduceLT, Nat.reduceDiv, Nat.reduceMod]); repeat' ((first | with_reducible first | refine caK (fun hb => ?_) fun hb => ?_ | refine caG (fun hb => ?_) fun hb => ?_ | refine caP (fun hb => ?_) fun hb => ?_ | refine caH (fun hb => ?_) fun hb => ?_ | refine caQ (fun hb => ?_) fun hb => ?_ | refine ite_cases (fun hb => ?_) fun hb => ?_ | rw [drwK_ok rfl]) <;> try simp (maxSteps := 4000000) (disch := first | assumption | omega) only [go_sem, *, rT_len, o, ↓bin_eqI, ↓bin_neI, Nat.reduceAdd, Nat.reduceSub, Nat.reduceMul, Nat.reduceBEq, Nat.reduceLeDiff, Nat.reduceLT, Nat.reduceDiv, Nat.reduceMod])
  | m + 1, i, l, h0, hm, hl => by
    have hil : i.toNat < xs.length := by omega
    have hd := drop_at xs i (by omega)
    have hg := rT_get xs i.toNat hil
    have hs := szTask_ok xs[i.toNat] l hl (hok xs[i.toNat] (List.getElem_mem _))
    have h1 := tET_ge xs[i.toNat]
    have h2 := tT_ge (xs.drop (i + 1).toNat)
    rw [hd, tT]
    clear hd
    generalize xs[i.toNat] = x at hg hs h1 ⊢
    simp only [encTask, List.map_cons, List.map_nil] at hg hs
    by_cases hn : l < tET x
    · rw [szr_lt hn] at hs
      rw [if_pos (by omega)]
      clear hok
      have o := o14_1110100; simp only [OE, opsR, cqR, subR, chi, Try.f14] at o
      rw [loopC_round]
      (try simp (maxSteps := 4000000) (disch := first | assumption | omega) only [go_sem, *, rT_len, hg, hs, o, ↓bin_eqI, ↓bin_neI, Nat.reduceAdd, Nat.reduceSub, Nat.reduceMul, Nat.reduceBEq, Nat.reduceLeDiff, Nat.reduceLT, Nat.reduceDiv, Nat.reduceMod]); repeat' ((first | with_reducible first | refine caK (fun hb => ?_) fun hb => ?_ | refine caG (fun hb => ?_) fun hb => ?_ | refine caP (fun hb => ?_) fun hb => ?_ | refine caH (fun hb => ?_) fun hb => ?_ | refine caQ (fun hb => ?_) fun hb => ?_ | refine ite_cases (fun hb => ?_) fun hb => ?_ | rw [drwK_ok rfl]) <;> try simp (maxSteps := 4000000) (disch := first | assumption | omega) only [go_sem, *, rT_len, hg, hs, o, ↓bin_eqI, ↓bin_neI, Nat.reduceAdd, Nat.reduceSub, Nat.reduceMul, Nat.reduceBEq, Nat.reduceLeDiff, Nat.reduceLT, Nat.reduceDiv, Nat.reduceMod])
    · have ih := szTaskS_loop xs hx hok m (i + 1) (l - tET x) (by omega) (by omega) (by omega)
      rw [szr_ge hn] at hs
      have e : ∀ {α : Type} (a b : α), (if l < tET x + tT (xs.drop (i + 1).toNat) then a else b) = if l - tET x < tT (xs.drop (i + 1).toNat) then a else b := fun a b => by
        by_cases hq : l - tET x < tT (xs.drop (i + 1).toNat)
        · rw [if_pos hq, if_pos (by omega)]
        · rw [if_neg hq, if_neg (by omega)]
      rw [e, show l - (tET x + tT (xs.drop (i + 1).toNat)) = l - tET x - tT (xs.drop (i + 1).toNat) by omega, ← ih]
      clear ih hok e
      have o := o14_1110100; simp only [OE, opsR, cqR, subR, chi, Try.f14] at o
      rw [loopC_round]
      (try simp (maxSteps := 4000000) (disch := first | assumption | omega) only [go_sem, *, rT_len, hg, hs, o, ↓bin_eqI, ↓bin_neI, Nat.reduceAdd, Nat.reduceSub, Nat.reduceMul, Nat.reduceBEq, Nat.reduceLeDiff, Nat.reduceLT, Nat.reduceDiv, Nat.reduceMod]); repeat' ((first | with_reducible first | refine caK (fun hb => ?_) fun hb => ?_ | refine caG (fun hb => ?_) fun hb => ?_ | refine caP (fun hb => ?_) fun hb => ?_ | refine caH (fun hb => ?_) fun hb => ?_ | refine caQ (fun hb => ?_) fun hb => ?_ | refine ite_cases (fun hb => ?_) fun hb => ?_ | rw [drwK_ok rfl]) <;> try simp (maxSteps := 4000000) (disch := first | assumption | omega) only [go_sem, *, rT_len, hg, hs, o, ↓bin_eqI, ↓bin_neI, Nat.reduceAdd, Nat.reduceSub, Nat.reduceMul, Nat.reduceBEq, Nat.reduceLeDiff, Nat.reduceLT, Nat.reduceDiv, Nat.reduceMod])
theorem szTaskS_ok (xs : List GTask) (l : Int) (hl : 0 ≤ l ∧ l ≤ 1048576) (hx : xs.length ≤ maxLen) (hok : ∀ x ∈ xs, GTask.ok x) : fnL Try.prog T L0 14 [.c (.d (.sl 7 (rT xs))), .c (.d (.v (.int .i64 (l))))] [] = some (.one (.c (.d (.v (.int .i64 (szr l (xs.length + tT xs)))))), []) := by
  have : maxLen = 9223372036854775807 := rfl
  have h2 := tT_ge xs
  by_cases h : l - (xs.length : Int) < 0
  · rw [szr_lt (by omega)]
    clear hok
    refine fnL_run rfl N14 Try.func14 U14 ?_; have o := o14; simp only [OE, opsR, cqR, subR, chi, Try.f14] at o
    (try simp (maxSteps := 4000000) (disch := first | assumption | omega) only [go_sem, *, rT_len, o, ↓bin_eqI, ↓bin_neI, Nat.reduceAdd, Nat.reduceSub, Nat.reduceMul, Nat.reduceBEq, Nat.reduceLeDiff, Nat.reduceLT, Nat.reduceDiv, Nat.reduceMod]); repeat' ((first | with_reducible first | refine caK (fun hb => ?_) fun hb => ?_ | refine caG (fun hb => ?_) fun hb => ?_ | refine caP (fun hb => ?_) fun hb => ?_ | refine caH (fun hb => ?_) fun hb => ?_ | refine caQ (fun hb => ?_) fun hb => ?_ | refine ite_cases (fun hb => ?_) fun hb => ?_ | rw [drwK_ok rfl]) <;> try simp (maxSteps := 4000000) (disch := first | assumption | omega) only [go_sem, *, rT_len, o, ↓bin_eqI, ↓bin_neI, Nat.reduceAdd, Nat.reduceSub, Nat.reduceMul, Nat.reduceBEq, Nat.reduceLeDiff, Nat.reduceLT, Nat.reduceDiv, Nat.reduceMod])
  · have Lp := szTaskS_loop xs (by omega) hok xs.length 0 (l - xs.length) (by omega) (by omega) (by omega)
    rw [Int.toNat_zero, List.drop_zero] at Lp
    clear hok
    by_cases hr : l - (xs.length : Int) < tT xs
    · rw [if_pos hr] at Lp
      rw [szr_lt (by omega)]
      refine fnL_run rfl N14 Try.func14 U14 ?_; have o := o14; simp only [OE, opsR, cqR, subR, chi, Try.f14] at o
      (try simp (maxSteps := 4000000) (disch := first | assumption | omega) only [go_sem, *, rT_len, Lp, o, ↓bin_eqI, ↓bin_neI, Nat.reduceAdd, Nat.reduceSub, Nat.reduceMul, Nat.reduceBEq, Nat.reduceLeDiff, Nat.reduceLT, Nat.reduceDiv, Nat.reduceMod]); repeat' ((first | with_reducible first | refine caK (fun hb => ?_) fun hb => ?_ | refine caG (fun hb => ?_) fun hb => ?_ | refine caP (fun hb => ?_) fun hb => ?_ | refine caH (fun hb => ?_) fun hb => ?_ | refine caQ (fun hb => ?_) fun hb => ?_ | refine ite_cases (fun hb => ?_) fun hb => ?_ | rw [drwK_ok rfl]) <;> try simp (maxSteps := 4000000) (disch := first | assumption | omega) only [go_sem, *, rT_len, Lp, o, ↓bin_eqI, ↓bin_neI, Nat.reduceAdd, Nat.reduceSub, Nat.reduceMul, Nat.reduceBEq, Nat.reduceLeDiff, Nat.reduceLT, Nat.reduceDiv, Nat.reduceMod])
    · rw [if_neg hr] at Lp
      rw [szr_ge (by omega), show l - (xs.length + tT xs) = l - xs.length - tT xs by omega]
      refine fnL_run rfl N14 Try.func14 U14 ?_; have o := o14; simp only [OE, opsR, cqR, subR, chi, Try.f14] at o
      (try simp (maxSteps := 4000000) (disch := first | assumption | omega) only [go_sem, *, rT_len, Lp, o, ↓bin_eqI, ↓bin_neI, Nat.reduceAdd, Nat.reduceSub, Nat.reduceMul, Nat.reduceBEq, Nat.reduceLeDiff, Nat.reduceLT, Nat.reduceDiv, Nat.reduceMod]); repeat' ((first | with_reducible first | refine caK (fun hb => ?_) fun hb => ?_ | refine caG (fun hb => ?_) fun hb => ?_ | refine caP (fun hb => ?_) fun hb => ?_ | refine caH (fun hb => ?_) fun hb => ?_ | refine caQ (fun hb => ?_) fun hb => ?_ | refine ite_cases (fun hb => ?_) fun hb => ?_ | rw [drwK_ok rfl]) <;> try simp (maxSteps := 4000000) (disch := first | assumption | omega) only [go_sem, *, rT_len, Lp, o, ↓bin_eqI, ↓bin_neI, Nat.reduceAdd, Nat.reduceSub, Nat.reduceMul, Nat.reduceBEq, Nat.reduceLeDiff, Nat.reduceLT, Nat.reduceDiv, Nat.reduceMod])
theorem szCoord_ok (x : GCoord) (l : Int) (hl : 0 ≤ l ∧ l ≤ 1048576) (hx : GCoord.ok x) : fnL Try.prog T L0 4 [.agg (x.enc.map .d), .c (.d (.v (.int .i64 (l))))] [] = some (.one (.c (.d (.v (.int .i64 (szr l (tCoord x)))))), []) := by
  obtain ⟨w1, ⟨w2, w3⟩, w4, w5, ⟨w6, w7⟩, w8, w9, w10, w11⟩ := hx
  have : maxLen = 9223372036854775807 := rfl
  have g0 := fun l h => szCode_sl x.Code l h w1
  have z0 := tCode_ge x.Code
  have g1 := fun l h => szStringS_ok x.Names l h w2 w3
  have z1 := tS_ge x.Names
  have g2 := fun l h => szStore_sl x.Begin l h w4
  have z2 := tStore_ge x.Begin
  have g3 := fun l h => szTaskS_ok x.Tasks l h w6 w7
  have z3 := tT_ge x.Tasks
  have g4 := fun l h => szStore_sl x.Final l h w11
  have z4 := tStore_ge x.Final
  obtain ⟨a0, e0⟩ : ∃ a : Int, a = tCode x.Code := ⟨_, rfl⟩
  rw [← e0] at g0
  obtain ⟨a1, e1⟩ : ∃ a : Int, a = x.Names.length + tS x.Names := ⟨_, rfl⟩
  rw [← e1] at g1
  obtain ⟨a2, e2⟩ : ∃ a : Int, a = tStore x.Begin := ⟨_, rfl⟩
  rw [← e2] at g2
  obtain ⟨a3, e3⟩ : ∃ a : Int, a = x.Tasks.length + tT x.Tasks := ⟨_, rfl⟩
  rw [← e3] at g3
  obtain ⟨a4, e4⟩ : ∃ a : Int, a = tStore x.Final := ⟨_, rfl⟩
  rw [← e4] at g4
  have et : tCoord x = a0 + a1 + a2 + a3 + a4 := by unfold tCoord; omega
  have p0 : 0 ≤ a0 := by omega
  have p1 : 0 ≤ a1 := by omega
  have p2 : 0 ≤ a2 := by omega
  have p3 : 0 ≤ a3 := by omega
  have p4 : 0 ≤ a4 := by omega
  rw [et]
  clear z0 z1 z2 z3 z4 e0 e1 e2 e3 e4 et
  by_cases c0 : l < a0
  · rw [szr_lt (by omega)]
    clear g1 g2 g3 g4
    have q0 := g0 (l) (by omega)
    rw [szr_lt c0] at q0
    clear g0
    refine fnL_run rfl N4 Try.func4 U4 ?_; have o := o4; simp only [OE, opsR, cqR, subR, chi, Try.f4] at o
    simp only [encCoord, List.map_cons, List.map_nil]
    (try simp (maxSteps := 4000000) (disch := first | assumption | omega) only [go_sem, *, q0, o, ↓bin_eqI, ↓bin_neI, Nat.reduceAdd, Nat.reduceSub, Nat.reduceMul, Nat.reduceBEq, Nat.reduceLeDiff, Nat.reduceLT, Nat.reduceDiv, Nat.reduceMod]); repeat' ((first | with_reducible first | refine caK (fun hb => ?_) fun hb => ?_ | refine caG (fun hb => ?_) fun hb => ?_ | refine caP (fun hb => ?_) fun hb => ?_ | refine caH (fun hb => ?_) fun hb => ?_ | refine caQ (fun hb => ?_) fun hb => ?_ | refine ite_cases (fun hb => ?_) fun hb => ?_ | rw [drwK_ok rfl]) <;> try simp (maxSteps := 4000000) (disch := first | assumption | omega) only [go_sem, *, q0, o, ↓bin_eqI, ↓bin_neI, Nat.reduceAdd, Nat.reduceSub, Nat.reduceMul, Nat.reduceBEq, Nat.reduceLeDiff, Nat.reduceLT, Nat.reduceDiv, Nat.reduceMod])
  · skip
    have q0 := g0 (l) (by omega)
    rw [szr_ge c0] at q0
    clear g0
    by_cases c1 : l - a0 < a1
    · rw [szr_lt (by omega)]
      clear g2 g3 g4
      have q1 := g1 (l - a0) (by omega)
      rw [szr_lt c1] at q1
      clear g1
      refine fnL_run rfl N4 Try.func4 U4 ?_; have o := o4; simp only [OE, opsR, cqR, subR, chi, Try.f4] at o
      simp only [encCoord, List.map_cons, List.map_nil]
      (try simp (maxSteps := 4000000) (disch := first | assumption | omega) only [go_sem, *, q0, q1, o, ↓bin_eqI, ↓bin_neI, Nat.reduceAdd, Nat.reduceSub, Nat.reduceMul, Nat.reduceBEq, Nat.reduceLeDiff, Nat.reduceLT, Nat.reduceDiv, Nat.reduceMod]); repeat' ((first | with_reducible first | refine caK (fun hb => ?_) fun hb => ?_ | refine caG (fun hb => ?_) fun hb => ?_ | refine caP (fun hb => ?_) fun hb => ?_ | refine caH (fun hb => ?_) fun hb => ?_ | refine caQ (fun hb => ?_) fun hb => ?_ | refine ite_cases (fun hb => ?_) fun hb => ?_ | rw [drwK_ok rfl]) <;> try simp (maxSteps := 4000000) (disch := first | assumption | omega) only [go_sem, *, q0, q1, o, ↓bin_eqI, ↓bin_neI, Nat.reduceAdd, Nat.reduceSub, Nat.reduceMul, Nat.reduceBEq, Nat.reduceLeDiff, Nat.reduceLT, Nat.reduceDiv, Nat.reduceMod])
    · skip
      have q1 := g1 (l - a0) (by omega)
      rw [szr_ge c1] at q1
      clear g1
      by_cases c2 : l - a0 - a1 < a2
      · rw [szr_lt (by omega)]
        clear g3 g4
        have q2 := g2 (l - a0 - a1) (by omega)
        rw [szr_lt c2] at q2
        clear g2
        refine fnL_run rfl N4 Try.func4 U4 ?_; have o := o4; simp only [OE, opsR, cqR, subR, chi, Try.f4] at o
        simp only [encCoord, List.map_cons, List.map_nil]
        (try simp (maxSteps := 4000000) (disch := first | assumption | omega) only [go_sem, *, q0, q1, q2, o, ↓bin_eqI, ↓bin_neI, Nat.reduceAdd, Nat.reduceSub, Nat.reduceMul, Nat.reduceBEq, Nat.reduceLeDiff, Nat.reduceLT, Nat.reduceDiv, Nat.reduceMod]); repeat' ((first | with_reducible first | refine caK (fun hb => ?_) fun hb => ?_ | refine caG (fun hb => ?_) fun hb => ?_ | refine caP (fun hb => ?_) fun hb => ?_ | refine caH (fun hb => ?_) fun hb => ?_ | refine caQ (fun hb => ?_) fun hb => ?_ | refine ite_cases (fun hb => ?_) fun hb => ?_ | rw [drwK_ok rfl]) <;> try simp (maxSteps := 4000000) (disch := first | assumption | omega) only [go_sem, *, q0, q1, q2, o, ↓bin_eqI, ↓bin_neI, Nat.reduceAdd, Nat.reduceSub, Nat.reduceMul, Nat.reduceBEq, Nat.reduceLeDiff, Nat.reduceLT, Nat.reduceDiv, Nat.reduceMod])
      · skip
        have q2 := g2 (l - a0 - a1) (by omega)
        rw [szr_ge c2] at q2
        clear g2
        by_cases c3 : l - a0 - a1 - a2 < a3
        · rw [szr_lt (by omega)]
          clear g4
          have q3 := g3 (l - a0 - a1 - a2) (by omega)
          rw [szr_lt c3] at q3
          clear g3
          refine fnL_run rfl N4 Try.func4 U4 ?_; have o := o4; simp only [OE, opsR, cqR, subR, chi, Try.f4] at o
          simp only [encCoord, List.map_cons, List.map_nil]
          (try simp (maxSteps := 4000000) (disch := first | assumption | omega) only [go_sem, *, q0, q1, q2, q3, o, ↓bin_eqI, ↓bin_neI, Nat.reduceAdd, Nat.reduceSub, Nat.reduceMul, Nat.reduceBEq, Nat.reduceLeDiff, Nat.reduceLT, Nat.reduceDiv, Nat.reduceMod]); repeat' ((first | with_reducible first | refine caK (fun hb => ?_) fun hb => ?_ | refine caG (fun hb => ?_) fun hb => ?_ | refine caP (fun hb => ?_) fun hb => ?_ | refine caH (fun hb => ?_) fun hb => ?_ | refine caQ (fun hb => ?_) fun hb => ?_ | refine ite_cases (fun hb => ?_) fun hb => ?_ | rw [drwK_ok rfl]) <;> try simp (maxSteps := 4000000) (disch := first | assumption | omega) only [go_sem, *, q0, q1, q2, q3, o, ↓bin_eqI, ↓bin_neI, Nat.reduceAdd, Nat.reduceSub, Nat.reduceMul, Nat.reduceBEq, Nat.reduceLeDiff, Nat.reduceLT, Nat.reduceDiv, Nat.reduceMod])
        · skip
          have q3 := g3 (l - a0 - a1 - a2) (by omega)
          rw [szr_ge c3] at q3
          clear g3
          by_cases c4 : l - a0 - a1 - a2 - a3 < a4
          · rw [szr_lt (by omega)]
            have q4 := g4 (l - a0 - a1 - a2 - a3) (by omega)
            rw [szr_lt c4] at q4
            clear g4
            refine fnL_run rfl N4 Try.func4 U4 ?_; have o := o4; simp only [OE, opsR, cqR, subR, chi, Try.f4] at o
            simp only [encCoord, List.map_cons, List.map_nil]
            (try simp (maxSteps := 4000000) (disch := first | assumption | omega) only [go_sem, *, q0, q1, q2, q3, q4, o, ↓bin_eqI, ↓bin_neI, Nat.reduceAdd, Nat.reduceSub, Nat.reduceMul, Nat.reduceBEq, Nat.reduceLeDiff, Nat.reduceLT, Nat.reduceDiv, Nat.reduceMod]); repeat' ((first | with_reducible first | refine caK (fun hb => ?_) fun hb => ?_ | refine caG (fun hb => ?_) fun hb => ?_ | refine caP (fun hb => ?_) fun hb => ?_ | refine caH (fun hb => ?_) fun hb => ?_ | refine caQ (fun hb => ?_) fun hb => ?_ | refine ite_cases (fun hb => ?_) fun hb => ?_ | rw [drwK_ok rfl]) <;> try simp (maxSteps := 4000000) (disch := first | assumption | omega) only [go_sem, *, q0, q1, q2, q3, q4, o, ↓bin_eqI, ↓bin_neI, Nat.reduceAdd, Nat.reduceSub, Nat.reduceMul, Nat.reduceBEq, Nat.reduceLeDiff, Nat.reduceLT, Nat.reduceDiv, Nat.reduceMod])
          · skip
            have q4 := g4 (l - a0 - a1 - a2 - a3) (by omega)
            rw [szr_ge c4] at q4
            clear g4
            rw [szr_ge (by omega), show l - (a0 + a1 + a2 + a3 + a4) = l - a0 - a1 - a2 - a3 - a4 by omega]
            refine fnL_run rfl N4 Try.func4 U4 ?_; have o := o4; simp only [OE, opsR, cqR, subR, chi, Try.f4] at o
            simp only [encCoord, List.map_cons, List.map_nil]
            (try simp (maxSteps := 4000000) (disch := first | assumption | omega) only [go_sem, *, q0, q1, q2, q3, q4, o, ↓bin_eqI, ↓bin_neI, Nat.reduceAdd, Nat.reduceSub, Nat.reduceMul, Nat.reduceBEq, Nat.reduceLeDiff, Nat.reduceLT, Nat.reduceDiv, Nat.reduceMod]); repeat' ((first | with_reducible first | refine caK (fun hb => ?_) fun hb => ?_ | refine caG (fun hb => ?_) fun hb => ?_ | refine caP (fun hb => ?_) fun hb => ?_ | refine caH (fun hb => ?_) fun hb => ?_ | refine caQ (fun hb => ?_) fun hb => ?_ | refine ite_cases (fun hb => ?_) fun hb => ?_ | rw [drwK_ok rfl]) <;> try simp (maxSteps := 4000000) (disch := first | assumption | omega) only [go_sem, *, q0, q1, q2, q3, q4, o, ↓bin_eqI, ↓bin_neI, Nat.reduceAdd, Nat.reduceSub, Nat.reduceMul, Nat.reduceBEq, Nat.reduceLeDiff, Nat.reduceLT, Nat.reduceDiv, Nat.reduceMod])
end
end Go.Vsi
