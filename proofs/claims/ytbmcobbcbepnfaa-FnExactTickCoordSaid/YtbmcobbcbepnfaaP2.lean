/- What the functions of the program, of the reference and of the law do (a part of it). -/
import Derived.Test.YtbmcobbcbepnfaaP1
namespace Go.Vsi
open Go.Proofs
noncomputable section
set_option maxRecDepth 100000
set_option maxHeartbeats 4000000
set_option linter.unusedSimpArgs false
set_option linter.unusedVariables false
attribute [local go_sem] List.isEmpty_nil Bool.true_or Bool.and_true Bool.and_self Bool.false_eq_true Bool.not_true Bool.not_false List.set_cons_zero List.set_cons_succ frzSt wantedA evA constW ofVal plain oneOf noUp toVal cellVal putA startA List.length_cons List.length_nil List.map_cons List.map_nil List.replicate List.cons_append List.nil_append List.getElem?_cons_succ List.getElem?_cons_zero List.getElem?_toArray List.set upd Option.bind resA resOne giveA seenOf idsAt reach renH renW renV renS renB idsW idsV idsS frzW frzV frzS List.filter_nil List.range_zero List.flatMap_nil List.flatMap_cons List.append_nil List.range List.range.loop sliceLen intV List.length_map one partA ordOf canon junkBut List.elem_cons List.elem_nil Bool.false_or Bool.or_false Bool.or_true cond_true cond_false firstReg evL opTmps footA cut callOk List.all_nil List.all_cons Op.operands Array.toList List.filterMap_cons List.filterMap_nil lendCall ownCall lendVs lendV lendS plainW plainV plainS List.zipIdx_nil hpOf Array.toList_map idsB natBle beq_self_eq_true Int.toNat_natCast Option.map_some Option.map_none ix cellsV Nat.zero_add List.any_nil List.any_cons List.take_zero List.take_succ_cons List.take_nil List.drop_succ_cons List.drop_zero List.drop_nil toD toDs List.filter_cons Nat.zero_le Nat.le_refl frzH ite_true ite_false if_true if_false stpO_some opsO_nil opsO_cons stpD_some nthD_some drawO_nil drawO_cons decTrue decFalse callA natBeq decT decF B_size B_mk B_empty B_append B_extract decide_eq_true_eq Bool.not_eq_true' decide_eq_false_iff_not Bool.and_eq_true Bool.or_eq_true boundsA sliceA B_toList Bool.and_false Bool.false_and Bool.true_and backOf List.zipIdx_cons Option.getD_some Option.getD_none Nat.sub_self fillA rowsOf toRows List.flatten_cons List.flatten_nil appendA sliceRows lendSs capPtr opO_pick opO_move opO_assign opO_extract opO_nilCheck opO_unOp opO_binOp opO_convert opO_index opO_field opO_alloc opO_box opO_build opO_buildSlice opO_makeSlice opO_load opO_store opO_fieldAddr opO_indexAddr opO_slice opO_makeFunc opO_builtin opO_fn regK_some lopK_some lopK_ite map_get endA preK_some preA_cons preA_nil thenP_some pre1 preId preRow narRow narCell outOf dropOut setO renO toO toOs toRowsO nodupB isArrS nestT appendN narOuts O.flat Int.natCast_nonneg decide_true decide_false preR_some preD_some condK_true condK_false grdO_true grdO_false grdD_true grdD_false pickO_true pickO_false if_pos if_neg eqI_self eqI_t eqI_f true_and and_true and_self not_true_eq_false not_false_eq_true Bool.not_not Go.Call.operands closedB List.all_append List.filterMap_append Array.toList_append List.flatMap_append Bool.or_self List.getElem?_nil Bool.true_beq Bool.false_beq G12 I3 S3 C3 A3 B3 Try.underlying3 Z3 I9 S9 C9 A9 B9 Try.underlying9 Z9 I22 S22 C22 A22 B22 Try.underlying22 E22 Z22 K12_5 O12_5 R12 M12 G33 I23 S23 C23 A23 B23 Try.underlying23 E23 Z23 I96 S96 C96 A96 B96 Try.underlying96 Z96 R33 M33 G56 I89 S89 C89 A89 B89 Try.underlying89 Z89 R56 M56 G34 I26 S26 C26 A26 B26 Try.underlying26 E26 Z26 K34_5 O34_5 H56 Y56 R34 M34 G57 I92 S92 C92 A92 B92 Try.underlying92 Z92 R57 M57 G35 I27 S27 C27 A27 B27 Try.underlying27 E27 Z27 K35_5 O35_5 H57 Y57 R35 M35
attribute [local go_sem ↓] ite_dec popK_nil popK_seq popK_seqE popK_seqR popK_blk popK_blkR popK_blkE endF_normal endF_ret q12_ q12_0 q12_1 q12_10 q12_11 q12_110 q12_1100 q12_1101 q12_11010 q12_110100 q12_110101 q12_11011 q12_111 q12_1110 q12_11100 q12_11101 q12_111010 q12_1110100 q12_11101000 q12_111010000 q12_111010001 q12_1110100010 q12_1110100011 q12_11101001 q12_111010010 q12_1110100100 q12_11101001000 q12_11101001001 q12_111010010010 q12_111010010011 q12_1110100100110 q12_11101001001100 q12_11101001001101 q12_1110100100111 q12_111010011 q12_1111 q12_11110 q12_11111 q33_ q33_0 q33_1 q33_10 q33_11 q33_110 q33_1100 q33_1101 q33_11010 q33_110100 q33_110101 q33_11011 q33_111 q33_1110 q33_1111 q56_ q56_0 q56_1 q56_10 q56_11 q56_110 q56_1100 q56_1101 q56_11010 q56_110100 q56_110101 q56_11011 q56_111 q56_1110 q56_1111 q56_11110 q56_111100 q56_111101 q56_1111010 q56_11110100 q56_11110101 q56_1111011 q56_11111 q56_111110 q56_111111 q34_ q34_0 q34_1 q34_10 q34_11 q34_110 q34_1100 q34_1101 q34_11010 q34_110100 q34_110101 q34_11011 q34_111 q34_1110 q34_11100 q34_11101 q34_111010 q34_1110100 q34_11101000 q34_111010000 q34_111010001 q34_1110100010 q34_1110100011 q34_11101001 q34_111010010 q34_1110100100 q34_11101001000 q34_11101001001 q34_111010010010 q34_111010010011 q34_1110100100110 q34_11101001001100 q34_11101001001101 q34_1110100100111 q34_111010011 q34_1111 q34_11110 q34_11111 q57_ q57_0 q57_1 q57_10 q57_11 q57_110 q57_1100 q57_1101 q57_11010 q57_110100 q57_110101 q57_11011 q57_111 q57_1110 q57_1111 q57_11110 q57_111100 q57_111101 q57_1111010 q57_11110100 q57_11110101 q57_1111011 q57_11111 q57_111110 q57_111111 q57_1111110 q57_11111100 q57_11111101 q57_111111010 q57_1111110100 q57_1111110101 q57_111111011 q57_1111111 q57_11111110 q57_11111111 q35_ q35_0 q35_1 q35_10 q35_11 q35_110 q35_1100 q35_1101 q35_11010 q35_110100 q35_110101 q35_11011 q35_111 q35_1110 q35_11100 q35_11101 q35_111010 q35_1110100 q35_11101000 q35_111010000 q35_111010001 q35_1110100010 q35_1110100011 q35_11101001 q35_111010010 q35_1110100100 q35_11101001000 q35_11101001001 q35_111010010010 q35_111010010011 q35_1110100100110 q35_11101001001100 q35_11101001001101 q35_1110100100111 q35_111010011 q35_1111 q35_11110 q35_11111 bin_add bin_sub bin_mul bin_lss bin_leq bin_gtr bin_geq un_not min_int max_int wrap64' wrap_u8 wrap_i32 wrap64_byte wrap8_byte wrap32_byte bin_eqB bin_neB bin_addB LN9
def szL : List (List UInt8) → Int → Int
  | [], l => l
  | x :: xs, l => if l - x.length < 0 then l - x.length else szL xs (l - x.length)
theorem szL_eq : ∀ (xs : List (List UInt8)) (l : Int), 0 ≤ l → (l < tS xs → szL xs l < 0) ∧ (¬ l < tS xs → szL xs l = l - tS xs)
  | [], l, h => by simp [szL, tS, h]
  | x :: xs, l, h => by
    unfold szL tS
    have h2 := tS_ge xs
    split
    · omega
    · have := szL_eq xs (l - x.length) (by omega)
      omega
theorem szStringS_loop (xs : List (List UInt8)) (hx : xs.length ≤ 1048576) (hok : ∀ x ∈ xs, x.length ≤ maxLen) : ∀ (m : Nat) (i l : Int), 0 ≤ i → i + m = xs.length → 0 ≤ l ∧ l ≤ 1048576 →
    loopC Try.prog T (fnL Try.prog T L0) 12 (cq g12 [0, 0, 1, 0, 1, 1, 1]) ⟨[.one (.c (.d (.sl 1 (rS xs)))), .one (.c (.d (.v (.int .i64 (l))))), J, J, J, .one (.c (.d (.v (.int .i64 (i))))), J, J, J, J, J, J, J, J, J, J, J, J, J, J, J, J, J, J, J, J, J, J], hpOf [], 0, 0⟩ =
      if szL (xs.drop i.toNat) l < 0 then some (.ret, ⟨[J, .one (.c (.d (.v (.int .i64 (szL (xs.drop i.toNat) l))))), J, J, .one (.c (.d (.v (.int .i64 (-1))))), J, J, J, J, J, J, J, J, J, J, J, J, J, J, J, J, J, J, J, J, J, J, J], hpOf [], 0, 0⟩) else some (.exit 0, ⟨[J, .one (.c (.d (.v (.int .i64 (szL (xs.drop i.toNat) l))))), J, J, J, J, J, J, J, J, J, J, J, J, J, J, J, J, J, J, J, J, J, J, J, J, J, J], hpOf [], 0, 0⟩)
  | 0, i, l, h0, hm, hl => by
    rw [drop_end xs i (by omega), szL, if_neg (by omega)]
    clear hok
    have o := o12_1110100; simp only [OE, opsR, cqR, subR, chi, Try.f12] at o
    rw [loopC_round]
    (try simp (maxSteps := 4000000) (disch := first | assumption | omega) only [go_sem, *, rS_len, o, ↓bin_eqI, ↓bin_neI, Nat.reduceAdd, Nat.reduceSub, Nat.reduceMul, Nat.reduceBEq, Nat.reduceLeDiff, Nat.reduceLT, Nat.reduceDiv, Nat.reduceMod]); repeat' ((first | with_reducible first | refine caK (fun hb => ?_) fun hb => ?_ | refine caG (fun hb => ?_) fun hb => ?_ | refine caP (fun hb => ?_) fun hb => ?_ | refine caH (fun hb => ?_) fun hb => ?_ | refine caQ (fun hb => ?_) fun hb => ?_ | refine ite_cases (fun hb => ?_) fun hb => ?_ | rw [drwK_ok rfl]) <;> try simp (maxSteps := 4000000) (disch := first | assumption | omega) only [go_sem, *, rS_len, o, ↓bin_eqI, ↓bin_neI, Nat.reduceAdd, Nat.reduceSub, Nat.reduceMul, Nat.reduceBEq, Nat.reduceLeDiff, Nat.reduceLT, Nat.reduceDiv, Nat.reduceMod])
  | m + 1, i, l, h0, hm, hl => by
    have : maxLen = 9223372036854775807 := rfl
    have hil : i.toNat < xs.length := by omega
    have hd := drop_at xs i (by omega)
    have hg := rS_get xs i.toNat hil
    have ht := hok xs[i.toNat] (List.getElem_mem _)
    rw [hd, szL]
    clear hd
    generalize xs[i.toNat] = x at hg ht ⊢
    by_cases hn : l - (x.length : Int) < 0
    · simp only [if_pos hn]
      clear hok
      have o := o12_1110100; simp only [OE, opsR, cqR, subR, chi, Try.f12] at o
      rw [loopC_round]
      (try simp (maxSteps := 4000000) (disch := first | assumption | omega) only [go_sem, *, rS_len, hg, o, ↓bin_eqI, ↓bin_neI, Nat.reduceAdd, Nat.reduceSub, Nat.reduceMul, Nat.reduceBEq, Nat.reduceLeDiff, Nat.reduceLT, Nat.reduceDiv, Nat.reduceMod]); repeat' ((first | with_reducible first | refine caK (fun hb => ?_) fun hb => ?_ | refine caG (fun hb => ?_) fun hb => ?_ | refine caP (fun hb => ?_) fun hb => ?_ | refine caH (fun hb => ?_) fun hb => ?_ | refine caQ (fun hb => ?_) fun hb => ?_ | refine ite_cases (fun hb => ?_) fun hb => ?_ | rw [drwK_ok rfl]) <;> try simp (maxSteps := 4000000) (disch := first | assumption | omega) only [go_sem, *, rS_len, hg, o, ↓bin_eqI, ↓bin_neI, Nat.reduceAdd, Nat.reduceSub, Nat.reduceMul, Nat.reduceBEq, Nat.reduceLeDiff, Nat.reduceLT, Nat.reduceDiv, Nat.reduceMod])
    · have ih := szStringS_loop xs hx hok m (i + 1) (l - x.length) (by omega) (by omega) (by omega)
      rw [if_neg hn]
      rw [← ih]
      clear ih hok
      have o := o12_1110100; simp only [OE, opsR, cqR, subR, chi, Try.f12] at o
      rw [loopC_round]
      (try simp (maxSteps := 4000000) (disch := first | assumption | omega) only [go_sem, *, rS_len, hg, o, ↓bin_eqI, ↓bin_neI, Nat.reduceAdd, Nat.reduceSub, Nat.reduceMul, Nat.reduceBEq, Nat.reduceLeDiff, Nat.reduceLT, Nat.reduceDiv, Nat.reduceMod]); repeat' ((first | with_reducible first | refine caK (fun hb => ?_) fun hb => ?_ | refine caG (fun hb => ?_) fun hb => ?_ | refine caP (fun hb => ?_) fun hb => ?_ | refine caH (fun hb => ?_) fun hb => ?_ | refine caQ (fun hb => ?_) fun hb => ?_ | refine ite_cases (fun hb => ?_) fun hb => ?_ | rw [drwK_ok rfl]) <;> try simp (maxSteps := 4000000) (disch := first | assumption | omega) only [go_sem, *, rS_len, hg, o, ↓bin_eqI, ↓bin_neI, Nat.reduceAdd, Nat.reduceSub, Nat.reduceMul, Nat.reduceBEq, Nat.reduceLeDiff, Nat.reduceLT, Nat.reduceDiv, Nat.reduceMod])
theorem szStringS_ok (xs : List (List UInt8)) (l : Int) (hl : 0 ≤ l ∧ l ≤ 1048576) (hx : xs.length ≤ maxLen) (hok : ∀ x ∈ xs, x.length ≤ maxLen) : fnL Try.prog T L0 12 [.c (.d (.sl 1 (rS xs))), .c (.d (.v (.int .i64 (l))))] [] = some (.one (.c (.d (.v (.int .i64 (szr l (xs.length + tS xs)))))), []) := by
  have : maxLen = 9223372036854775807 := rfl
  have h2 := tS_ge xs
  by_cases h : l - (xs.length : Int) < 0
  · rw [szr_lt (by omega)]
    clear hok
    refine fnL_run rfl N12 Try.func12 U12 ?_; have o := o12; simp only [OE, opsR, cqR, subR, chi, Try.f12] at o
    (try simp (maxSteps := 4000000) (disch := first | assumption | omega) only [go_sem, *, rS_len, o, ↓bin_eqI, ↓bin_neI, Nat.reduceAdd, Nat.reduceSub, Nat.reduceMul, Nat.reduceBEq, Nat.reduceLeDiff, Nat.reduceLT, Nat.reduceDiv, Nat.reduceMod]); repeat' ((first | with_reducible first | refine caK (fun hb => ?_) fun hb => ?_ | refine caG (fun hb => ?_) fun hb => ?_ | refine caP (fun hb => ?_) fun hb => ?_ | refine caH (fun hb => ?_) fun hb => ?_ | refine caQ (fun hb => ?_) fun hb => ?_ | refine ite_cases (fun hb => ?_) fun hb => ?_ | rw [drwK_ok rfl]) <;> try simp (maxSteps := 4000000) (disch := first | assumption | omega) only [go_sem, *, rS_len, o, ↓bin_eqI, ↓bin_neI, Nat.reduceAdd, Nat.reduceSub, Nat.reduceMul, Nat.reduceBEq, Nat.reduceLeDiff, Nat.reduceLT, Nat.reduceDiv, Nat.reduceMod])
  · have Lp := szStringS_loop xs (by omega) hok xs.length 0 (l - xs.length) (by omega) (by omega) (by omega)
    obtain ⟨l1, l2⟩ := szL_eq xs (l - xs.length) (by omega)
    rw [Int.toNat_zero, List.drop_zero] at Lp
    clear hok
    generalize szL xs (l - (xs.length : Int)) = r at Lp l1 l2
    by_cases hr : l - (xs.length : Int) < tS xs
    · have l1 := l1 hr
      rw [if_pos l1] at Lp
      rw [szr_lt (by omega)]
      clear l2
      refine fnL_run rfl N12 Try.func12 U12 ?_; have o := o12; simp only [OE, opsR, cqR, subR, chi, Try.f12] at o
      (try simp (maxSteps := 4000000) (disch := first | assumption | omega) only [go_sem, *, rS_len, Lp, o, ↓bin_eqI, ↓bin_neI, Nat.reduceAdd, Nat.reduceSub, Nat.reduceMul, Nat.reduceBEq, Nat.reduceLeDiff, Nat.reduceLT, Nat.reduceDiv, Nat.reduceMod]); repeat' ((first | with_reducible first | refine caK (fun hb => ?_) fun hb => ?_ | refine caG (fun hb => ?_) fun hb => ?_ | refine caP (fun hb => ?_) fun hb => ?_ | refine caH (fun hb => ?_) fun hb => ?_ | refine caQ (fun hb => ?_) fun hb => ?_ | refine ite_cases (fun hb => ?_) fun hb => ?_ | rw [drwK_ok rfl]) <;> try simp (maxSteps := 4000000) (disch := first | assumption | omega) only [go_sem, *, rS_len, Lp, o, ↓bin_eqI, ↓bin_neI, Nat.reduceAdd, Nat.reduceSub, Nat.reduceMul, Nat.reduceBEq, Nat.reduceLeDiff, Nat.reduceLT, Nat.reduceDiv, Nat.reduceMod])
    · have l2 := l2 hr
      rw [if_neg (by omega)] at Lp
      rw [szr_ge (by omega), show l - (xs.length + tS xs) = r by omega]
      clear l1
      refine fnL_run rfl N12 Try.func12 U12 ?_; have o := o12; simp only [OE, opsR, cqR, subR, chi, Try.f12] at o
      (try simp (maxSteps := 4000000) (disch := first | assumption | omega) only [go_sem, *, rS_len, Lp, o, ↓bin_eqI, ↓bin_neI, Nat.reduceAdd, Nat.reduceSub, Nat.reduceMul, Nat.reduceBEq, Nat.reduceLeDiff, Nat.reduceLT, Nat.reduceDiv, Nat.reduceMod]); repeat' ((first | with_reducible first | refine caK (fun hb => ?_) fun hb => ?_ | refine caG (fun hb => ?_) fun hb => ?_ | refine caP (fun hb => ?_) fun hb => ?_ | refine caH (fun hb => ?_) fun hb => ?_ | refine caQ (fun hb => ?_) fun hb => ?_ | refine ite_cases (fun hb => ?_) fun hb => ?_ | rw [drwK_ok rfl]) <;> try simp (maxSteps := 4000000) (disch := first | assumption | omega) only [go_sem, *, rS_len, Lp, o, ↓bin_eqI, ↓bin_neI, Nat.reduceAdd, Nat.reduceSub, Nat.reduceMul, Nat.reduceBEq, Nat.reduceLeDiff, Nat.reduceLT, Nat.reduceDiv, Nat.reduceMod])
theorem szInstrS_ok (xs : List GInstr) (l : Int) (hl : 0 ≤ l ∧ l ≤ 1048576) (hx : xs.length ≤ maxLen) : fnL Try.prog T L0 33 [.c (.d (.sl 2 (rIn xs))), .c (.d (.v (.int .i64 (l))))] [] = some (.one (.c (.d (.v (.int .i64 (szr l xs.length))))), []) := by
  have : maxLen = 9223372036854775807 := rfl
  unfold szr
  by_cases h : l < (xs.length : Int)
  · rw [if_pos h]
    refine fnL_run rfl N33 Try.func33 U33 ?_; have o := o33; simp only [OE, opsR, cqR, subR, chi, Try.f33] at o
    (try simp (maxSteps := 4000000) (disch := first | assumption | omega) only [go_sem, *, rIn_len, o, ↓bin_eqI, ↓bin_neI, Nat.reduceAdd, Nat.reduceSub, Nat.reduceMul, Nat.reduceBEq, Nat.reduceLeDiff, Nat.reduceLT, Nat.reduceDiv, Nat.reduceMod]); repeat' ((first | with_reducible first | refine caK (fun hb => ?_) fun hb => ?_ | refine caG (fun hb => ?_) fun hb => ?_ | refine caP (fun hb => ?_) fun hb => ?_ | refine caH (fun hb => ?_) fun hb => ?_ | refine caQ (fun hb => ?_) fun hb => ?_ | refine ite_cases (fun hb => ?_) fun hb => ?_ | rw [drwK_ok rfl]) <;> try simp (maxSteps := 4000000) (disch := first | assumption | omega) only [go_sem, *, rIn_len, o, ↓bin_eqI, ↓bin_neI, Nat.reduceAdd, Nat.reduceSub, Nat.reduceMul, Nat.reduceBEq, Nat.reduceLeDiff, Nat.reduceLT, Nat.reduceDiv, Nat.reduceMod])
  · rw [if_neg h]
    refine fnL_run rfl N33 Try.func33 U33 ?_; have o := o33; simp only [OE, opsR, cqR, subR, chi, Try.f33] at o
    (try simp (maxSteps := 4000000) (disch := first | assumption | omega) only [go_sem, *, rIn_len, o, ↓bin_eqI, ↓bin_neI, Nat.reduceAdd, Nat.reduceSub, Nat.reduceMul, Nat.reduceBEq, Nat.reduceLeDiff, Nat.reduceLT, Nat.reduceDiv, Nat.reduceMod]); repeat' ((first | with_reducible first | refine caK (fun hb => ?_) fun hb => ?_ | refine caG (fun hb => ?_) fun hb => ?_ | refine caP (fun hb => ?_) fun hb => ?_ | refine caH (fun hb => ?_) fun hb => ?_ | refine caQ (fun hb => ?_) fun hb => ?_ | refine ite_cases (fun hb => ?_) fun hb => ?_ | rw [drwK_ok rfl]) <;> try simp (maxSteps := 4000000) (disch := first | assumption | omega) only [go_sem, *, rIn_len, o, ↓bin_eqI, ↓bin_neI, Nat.reduceAdd, Nat.reduceSub, Nat.reduceMul, Nat.reduceBEq, Nat.reduceLeDiff, Nat.reduceLT, Nat.reduceDiv, Nat.reduceMod])
theorem szVar_ok (x : GVar) (l : Int) (hl : 0 ≤ l ∧ l ≤ 1048576) (hx : GVar.ok x) : fnL Try.prog T L0 56 [.agg (x.enc.map .d), .c (.d (.v (.int .i64 (l))))] [] = some (.one (.c (.d (.v (.int .i64 (szr l (tEV x)))))), []) := by
  have : maxLen = 9223372036854775807 := rfl
  obtain ⟨oName, oVal⟩ := hx
  unfold tEV
  by_cases c0 : l - (x.Name.length : Int) < 0
  · rw [szr_lt (by omega)]
    refine fnL_run rfl N56 Try.func56 U56 ?_; have o := o56; simp only [OE, opsR, cqR, subR, chi, Try.f56] at o
    simp only [GVar.enc, List.map_cons, List.map_nil]
    (try simp (maxSteps := 4000000) (disch := first | assumption | omega) only [go_sem, *, o, ↓bin_eqI, ↓bin_neI, Nat.reduceAdd, Nat.reduceSub, Nat.reduceMul, Nat.reduceBEq, Nat.reduceLeDiff, Nat.reduceLT, Nat.reduceDiv, Nat.reduceMod]); repeat' ((first | with_reducible first | refine caK (fun hb => ?_) fun hb => ?_ | refine caG (fun hb => ?_) fun hb => ?_ | refine caP (fun hb => ?_) fun hb => ?_ | refine caH (fun hb => ?_) fun hb => ?_ | refine caQ (fun hb => ?_) fun hb => ?_ | refine ite_cases (fun hb => ?_) fun hb => ?_ | rw [drwK_ok rfl]) <;> try simp (maxSteps := 4000000) (disch := first | assumption | omega) only [go_sem, *, o, ↓bin_eqI, ↓bin_neI, Nat.reduceAdd, Nat.reduceSub, Nat.reduceMul, Nat.reduceBEq, Nat.reduceLeDiff, Nat.reduceLT, Nat.reduceDiv, Nat.reduceMod])
  · skip
    by_cases c1 : l - (x.Name.length : Int) - (x.Val.length : Int) < 0
    · rw [szr_lt (by omega)]
      refine fnL_run rfl N56 Try.func56 U56 ?_; have o := o56; simp only [OE, opsR, cqR, subR, chi, Try.f56] at o
      simp only [GVar.enc, List.map_cons, List.map_nil]
      (try simp (maxSteps := 4000000) (disch := first | assumption | omega) only [go_sem, *, o, ↓bin_eqI, ↓bin_neI, Nat.reduceAdd, Nat.reduceSub, Nat.reduceMul, Nat.reduceBEq, Nat.reduceLeDiff, Nat.reduceLT, Nat.reduceDiv, Nat.reduceMod]); repeat' ((first | with_reducible first | refine caK (fun hb => ?_) fun hb => ?_ | refine caG (fun hb => ?_) fun hb => ?_ | refine caP (fun hb => ?_) fun hb => ?_ | refine caH (fun hb => ?_) fun hb => ?_ | refine caQ (fun hb => ?_) fun hb => ?_ | refine ite_cases (fun hb => ?_) fun hb => ?_ | rw [drwK_ok rfl]) <;> try simp (maxSteps := 4000000) (disch := first | assumption | omega) only [go_sem, *, o, ↓bin_eqI, ↓bin_neI, Nat.reduceAdd, Nat.reduceSub, Nat.reduceMul, Nat.reduceBEq, Nat.reduceLeDiff, Nat.reduceLT, Nat.reduceDiv, Nat.reduceMod])
    · skip
      rw [szr_ge (by omega), show l - ((x.Name.length : Int) + (x.Val.length : Int)) = l - (x.Name.length : Int) - (x.Val.length : Int) by omega]
      refine fnL_run rfl N56 Try.func56 U56 ?_; have o := o56; simp only [OE, opsR, cqR, subR, chi, Try.f56] at o
      simp only [GVar.enc, List.map_cons, List.map_nil]
      (try simp (maxSteps := 4000000) (disch := first | assumption | omega) only [go_sem, *, o, ↓bin_eqI, ↓bin_neI, Nat.reduceAdd, Nat.reduceSub, Nat.reduceMul, Nat.reduceBEq, Nat.reduceLeDiff, Nat.reduceLT, Nat.reduceDiv, Nat.reduceMod]); repeat' ((first | with_reducible first | refine caK (fun hb => ?_) fun hb => ?_ | refine caG (fun hb => ?_) fun hb => ?_ | refine caP (fun hb => ?_) fun hb => ?_ | refine caH (fun hb => ?_) fun hb => ?_ | refine caQ (fun hb => ?_) fun hb => ?_ | refine ite_cases (fun hb => ?_) fun hb => ?_ | rw [drwK_ok rfl]) <;> try simp (maxSteps := 4000000) (disch := first | assumption | omega) only [go_sem, *, o, ↓bin_eqI, ↓bin_neI, Nat.reduceAdd, Nat.reduceSub, Nat.reduceMul, Nat.reduceBEq, Nat.reduceLeDiff, Nat.reduceLT, Nat.reduceDiv, Nat.reduceMod])

theorem szVarS_loop (xs : List GVar) (hx : xs.length ≤ 1048576) (hok : ∀ x ∈ xs, GVar.ok x) : ∀ (m : Nat) (i l : Int), 0 ≤ i → i + m = xs.length → 0 ≤ l ∧ l ≤ 1048576 →
    loopC Try.prog T (fnL Try.prog T L0) 34 (cq g34 [0, 0, 1, 0, 1, 1, 1]) ⟨[.one (.c (.d (.sl 2 (rV xs)))), .one (.c (.d (.v (.int .i64 (l))))), J, J, J, .one (.c (.d (.v (.int .i64 (i))))), J, J, J, J, J, J, J, J, J, J, J, J, J, J, J, J, J, J, J, J, J], hpOf [], 0, 0⟩ =
      if l < tV (xs.drop i.toNat) then some (.ret, ⟨[J, .one (.c (.d (.v (.int .i64 (-1))))), J, J, .one (.c (.d (.v (.int .i64 (-1))))), J, J, J, J, J, J, J, J, J, J, J, J, J, J, J, J, J, J, J, J, J, J], hpOf [], 0, 0⟩) else some (.exit 0, ⟨[J, .one (.c (.d (.v (.int .i64 (l - tV (xs.drop i.toNat)))))), J, J, J, J, J, J, J, J, J, J, J, J, J, J, J, J, J, J, J, J, J, J, J, J, J], hpOf [], 0, 0⟩)
  | 0, i, l, h0, hm, hl => by
    rw [drop_end xs i (by omega), tV, if_neg (by omega), Int.sub_zero]
    clear hok
    have o := o34_1110100; simp only [OE, opsR, cqR, subR, chi, Try.f34] at o
    rw [loopC_round]
    (try simp (maxSteps := 4000000) (disch := first | assumption | omega) only [go_sem, *, rV_len, o, ↓bin_eqI, ↓bin_neI, Nat.reduceAdd, Nat.reduceSub, Nat.reduceMul, Nat.reduceBEq, Nat.reduceLeDiff, Nat.reduceLT, Nat.reduceDiv, Nat.reduceMod]); repeat' ((first | with_reducible first | refine caK (fun hb => ?_) fun hb => ?_ | refine caG (fun hb => ?_) fun hb => ?_ | refine caP (fun hb => ?_) fun hb => ?_ | refine caH (fun hb => ?_) fun hb => ?_ | refine caQ (fun hb => ?_) fun hb => ?_ | refine ite_cases (fun hb => ?_) fun hb => ?_ | rw [drwK_ok rfl]) <;> try simp (maxSteps := 4000000) (disch := first | assumption | omega) only [go_sem, *, rV_len, o, ↓bin_eqI, ↓bin_neI, Nat.reduceAdd, Nat.reduceSub, Nat.reduceMul, Nat.reduceBEq, Nat.reduceLeDiff, Nat.reduceLT, Nat.reduceDiv, Nat.reduceMod])
  | m + 1, i, l, h0, hm, hl => by
    have hil : i.toNat < xs.length := by omega
    have hd := drop_at xs i (by omega)
    have hg := rV_get xs i.toNat hil
    have hs := szVar_ok xs[i.toNat] l hl (hok xs[i.toNat] (List.getElem_mem _))
    have h1 := tEV_ge xs[i.toNat]
    have h2 := tV_ge (xs.drop (i + 1).toNat)
    rw [hd, tV]
    clear hd
    generalize xs[i.toNat] = x at hg hs h1 ⊢
    simp only [GVar.enc, List.map_cons, List.map_nil] at hg hs
    by_cases hn : l < tEV x
    · rw [szr_lt hn] at hs
      rw [if_pos (by omega)]
      clear hok
      have o := o34_1110100; simp only [OE, opsR, cqR, subR, chi, Try.f34] at o
      rw [loopC_round]
      (try simp (maxSteps := 4000000) (disch := first | assumption | omega) only [go_sem, *, rV_len, hg, hs, o, ↓bin_eqI, ↓bin_neI, Nat.reduceAdd, Nat.reduceSub, Nat.reduceMul, Nat.reduceBEq, Nat.reduceLeDiff, Nat.reduceLT, Nat.reduceDiv, Nat.reduceMod]); repeat' ((first | with_reducible first | refine caK (fun hb => ?_) fun hb => ?_ | refine caG (fun hb => ?_) fun hb => ?_ | refine caP (fun hb => ?_) fun hb => ?_ | refine caH (fun hb => ?_) fun hb => ?_ | refine caQ (fun hb => ?_) fun hb => ?_ | refine ite_cases (fun hb => ?_) fun hb => ?_ | rw [drwK_ok rfl]) <;> try simp (maxSteps := 4000000) (disch := first | assumption | omega) only [go_sem, *, rV_len, hg, hs, o, ↓bin_eqI, ↓bin_neI, Nat.reduceAdd, Nat.reduceSub, Nat.reduceMul, Nat.reduceBEq, Nat.reduceLeDiff, Nat.reduceLT, Nat.reduceDiv, Nat.reduceMod])
    · have ih := szVarS_loop xs hx hok m (i + 1) (l - tEV x) (by omega) (by omega) (by omega)
      rw [szr_ge hn] at hs
      have e : ∀ {α : Type} (a b : α), (if l < tEV x + tV (xs.drop (i + 1).toNat) then a else b) = if l - tEV x < tV (xs.drop (i + 1).toNat) then a else b := fun a b => by
        by_cases hq : l - tEV x < tV (xs.drop (i + 1).toNat)
        · rw [if_pos hq, if_pos (by omega)]
        · rw [if_neg hq, if_neg (by omega)]
      rw [e, show l - (tEV x + tV (xs.drop (i + 1).toNat)) = l - tEV x - tV (xs.drop (i + 1).toNat) by omega, ← ih]
      clear ih hok e
      have o := o34_1110100; simp only [OE, opsR, cqR, subR, chi, Try.f34] at o
      rw [loopC_round]
      (try simp (maxSteps := 4000000) (disch := first | assumption | omega) only [go_sem, *, rV_len, hg, hs, o, ↓bin_eqI, ↓bin_neI, Nat.reduceAdd, Nat.reduceSub, Nat.reduceMul, Nat.reduceBEq, Nat.reduceLeDiff, Nat.reduceLT, Nat.reduceDiv, Nat.reduceMod]); repeat' ((first | with_reducible first | refine caK (fun hb => ?_) fun hb => ?_ | refine caG (fun hb => ?_) fun hb => ?_ | refine caP (fun hb => ?_) fun hb => ?_ | refine caH (fun hb => ?_) fun hb => ?_ | refine caQ (fun hb => ?_) fun hb => ?_ | refine ite_cases (fun hb => ?_) fun hb => ?_ | rw [drwK_ok rfl]) <;> try simp (maxSteps := 4000000) (disch := first | assumption | omega) only [go_sem, *, rV_len, hg, hs, o, ↓bin_eqI, ↓bin_neI, Nat.reduceAdd, Nat.reduceSub, Nat.reduceMul, Nat.reduceBEq, Nat.reduceLeDiff, Nat.reduceLT, Nat.reduceDiv, Nat.reduceMod])
theorem szVarS_ok (xs : List GVar) (l : Int) (hl : 0 ≤ l ∧ l ≤ 1048576) (hx : xs.length ≤ maxLen) (hok : ∀ x ∈ xs, GVar.ok x) : fnL Try.prog T L0 34 [.c (.d (.sl 2 (rV xs))), .c (.d (.v (.int .i64 (l))))] [] = some (.one (.c (.d (.v (.int .i64 (szr l (xs.length + tV xs)))))), []) := by
  have : maxLen = 9223372036854775807 := rfl
  have h2 := tV_ge xs
  by_cases h : l - (xs.length : Int) < 0
  · rw [szr_lt (by omega)]
    clear hok
    refine fnL_run rfl N34 Try.func34 U34 ?_; have o := o34; simp only [OE, opsR, cqR, subR, chi, Try.f34] at o
    (try simp (maxSteps := 4000000) (disch := first | assumption | omega) only [go_sem, *, rV_len, o, ↓bin_eqI, ↓bin_neI, Nat.reduceAdd, Nat.reduceSub, Nat.reduceMul, Nat.reduceBEq, Nat.reduceLeDiff, Nat.reduceLT, Nat.reduceDiv, Nat.reduceMod]); repeat' ((first | with_reducible first | refine caK (fun hb => ?_) fun hb => ?_ | refine caG (fun hb => ?_) fun hb => ?_ | refine caP (fun hb => ?_) fun hb => ?_ | refine caH (fun hb => ?_) fun hb => ?_ | refine caQ (fun hb => ?_) fun hb => ?_ | refine ite_cases (fun hb => ?_) fun hb => ?_ | rw [drwK_ok rfl]) <;> try simp (maxSteps := 4000000) (disch := first | assumption | omega) only [go_sem, *, rV_len, o, ↓bin_eqI, ↓bin_neI, Nat.reduceAdd, Nat.reduceSub, Nat.reduceMul, Nat.reduceBEq, Nat.reduceLeDiff, Nat.reduceLT, Nat.reduceDiv, Nat.reduceMod])
  · have Lp := szVarS_loop xs (by omega) hok xs.length 0 (l - xs.length) (by omega) (by omega) (by omega)
    rw [Int.toNat_zero, List.drop_zero] at Lp
    clear hok
    by_cases hr : l - (xs.length : Int) < tV xs
    · rw [if_pos hr] at Lp
      rw [szr_lt (by omega)]
      refine fnL_run rfl N34 Try.func34 U34 ?_; have o := o34; simp only [OE, opsR, cqR, subR, chi, Try.f34] at o
      (try simp (maxSteps := 4000000) (disch := first | assumption | omega) only [go_sem, *, rV_len, Lp, o, ↓bin_eqI, ↓bin_neI, Nat.reduceAdd, Nat.reduceSub, Nat.reduceMul, Nat.reduceBEq, Nat.reduceLeDiff, Nat.reduceLT, Nat.reduceDiv, Nat.reduceMod]); repeat' ((first | with_reducible first | refine caK (fun hb => ?_) fun hb => ?_ | refine caG (fun hb => ?_) fun hb => ?_ | refine caP (fun hb => ?_) fun hb => ?_ | refine caH (fun hb => ?_) fun hb => ?_ | refine caQ (fun hb => ?_) fun hb => ?_ | refine ite_cases (fun hb => ?_) fun hb => ?_ | rw [drwK_ok rfl]) <;> try simp (maxSteps := 4000000) (disch := first | assumption | omega) only [go_sem, *, rV_len, Lp, o, ↓bin_eqI, ↓bin_neI, Nat.reduceAdd, Nat.reduceSub, Nat.reduceMul, Nat.reduceBEq, Nat.reduceLeDiff, Nat.reduceLT, Nat.reduceDiv, Nat.reduceMod])
    · rw [if_neg hr] at Lp
      rw [szr_ge (by omega), show l - (xs.length + tV xs) = l - xs.length - tV xs by omega]
      refine fnL_run rfl N34 Try.func34 U34 ?_; have o := o34; simp only [OE, opsR, cqR, subR, chi, Try.f34] at o
      (try simp (maxSteps := 4000000) (disch := first | assumption | omega) only [go_sem, *, rV_len, Lp, o, ↓bin_eqI, ↓bin_neI, Nat.reduceAdd, Nat.reduceSub, Nat.reduceMul, Nat.reduceBEq, Nat.reduceLeDiff, Nat.reduceLT, Nat.reduceDiv, Nat.reduceMod]); repeat' ((first | with_reducible first | refine caK (fun hb => ?_) fun hb => ?_ | refine caG (fun hb => ?_) fun hb => ?_ | refine caP (fun hb => ?_) fun hb => ?_ | refine caH (fun hb => ?_) fun hb => ?_ | refine caQ (fun hb => ?_) fun hb => ?_ | refine ite_cases (fun hb => ?_) fun hb => ?_ | rw [drwK_ok rfl]) <;> try simp (maxSteps := 4000000) (disch := first | assumption | omega) only [go_sem, *, rV_len, Lp, o, ↓bin_eqI, ↓bin_neI, Nat.reduceAdd, Nat.reduceSub, Nat.reduceMul, Nat.reduceBEq, Nat.reduceLeDiff, Nat.reduceLT, Nat.reduceDiv, Nat.reduceMod])
theorem szCell_ok (x : GCell) (l : Int) (hl : 0 ≤ l ∧ l ≤ 1048576) (hx : GCell.ok x) : fnL Try.prog T L0 57 [.agg (x.enc.map .d), .c (.d (.v (.int .i64 (l))))] [] = some (.one (.c (.d (.v (.int .i64 (szr l (tEC x)))))), []) := by
  have : maxLen = 9223372036854775807 := rfl
  obtain ⟨oName, oKey, oVal⟩ := hx
  unfold tEC
  by_cases c0 : l - (x.Name.length : Int) < 0
  · rw [szr_lt (by omega)]
    refine fnL_run rfl N57 Try.func57 U57 ?_; have o := o57; simp only [OE, opsR, cqR, subR, chi, Try.f57] at o
    simp only [GCell.enc, List.map_cons, List.map_nil]
    (try simp (maxSteps := 4000000) (disch := first | assumption | omega) only [go_sem, *, o, ↓bin_eqI, ↓bin_neI, Nat.reduceAdd, Nat.reduceSub, Nat.reduceMul, Nat.reduceBEq, Nat.reduceLeDiff, Nat.reduceLT, Nat.reduceDiv, Nat.reduceMod]); repeat' ((first | with_reducible first | refine caK (fun hb => ?_) fun hb => ?_ | refine caG (fun hb => ?_) fun hb => ?_ | refine caP (fun hb => ?_) fun hb => ?_ | refine caH (fun hb => ?_) fun hb => ?_ | refine caQ (fun hb => ?_) fun hb => ?_ | refine ite_cases (fun hb => ?_) fun hb => ?_ | rw [drwK_ok rfl]) <;> try simp (maxSteps := 4000000) (disch := first | assumption | omega) only [go_sem, *, o, ↓bin_eqI, ↓bin_neI, Nat.reduceAdd, Nat.reduceSub, Nat.reduceMul, Nat.reduceBEq, Nat.reduceLeDiff, Nat.reduceLT, Nat.reduceDiv, Nat.reduceMod])
  · skip
    by_cases c1 : l - (x.Name.length : Int) - (x.Key.length : Int) < 0
    · rw [szr_lt (by omega)]
      refine fnL_run rfl N57 Try.func57 U57 ?_; have o := o57; simp only [OE, opsR, cqR, subR, chi, Try.f57] at o
      simp only [GCell.enc, List.map_cons, List.map_nil]
      (try simp (maxSteps := 4000000) (disch := first | assumption | omega) only [go_sem, *, o, ↓bin_eqI, ↓bin_neI, Nat.reduceAdd, Nat.reduceSub, Nat.reduceMul, Nat.reduceBEq, Nat.reduceLeDiff, Nat.reduceLT, Nat.reduceDiv, Nat.reduceMod]); repeat' ((first | with_reducible first | refine caK (fun hb => ?_) fun hb => ?_ | refine caG (fun hb => ?_) fun hb => ?_ | refine caP (fun hb => ?_) fun hb => ?_ | refine caH (fun hb => ?_) fun hb => ?_ | refine caQ (fun hb => ?_) fun hb => ?_ | refine ite_cases (fun hb => ?_) fun hb => ?_ | rw [drwK_ok rfl]) <;> try simp (maxSteps := 4000000) (disch := first | assumption | omega) only [go_sem, *, o, ↓bin_eqI, ↓bin_neI, Nat.reduceAdd, Nat.reduceSub, Nat.reduceMul, Nat.reduceBEq, Nat.reduceLeDiff, Nat.reduceLT, Nat.reduceDiv, Nat.reduceMod])
    · skip
      by_cases c2 : l - (x.Name.length : Int) - (x.Key.length : Int) - (x.Val.length : Int) < 0
      · rw [szr_lt (by omega)]
        refine fnL_run rfl N57 Try.func57 U57 ?_; have o := o57; simp only [OE, opsR, cqR, subR, chi, Try.f57] at o
        simp only [GCell.enc, List.map_cons, List.map_nil]
        (try simp (maxSteps := 4000000) (disch := first | assumption | omega) only [go_sem, *, o, ↓bin_eqI, ↓bin_neI, Nat.reduceAdd, Nat.reduceSub, Nat.reduceMul, Nat.reduceBEq, Nat.reduceLeDiff, Nat.reduceLT, Nat.reduceDiv, Nat.reduceMod]); repeat' ((first | with_reducible first | refine caK (fun hb => ?_) fun hb => ?_ | refine caG (fun hb => ?_) fun hb => ?_ | refine caP (fun hb => ?_) fun hb => ?_ | refine caH (fun hb => ?_) fun hb => ?_ | refine caQ (fun hb => ?_) fun hb => ?_ | refine ite_cases (fun hb => ?_) fun hb => ?_ | rw [drwK_ok rfl]) <;> try simp (maxSteps := 4000000) (disch := first | assumption | omega) only [go_sem, *, o, ↓bin_eqI, ↓bin_neI, Nat.reduceAdd, Nat.reduceSub, Nat.reduceMul, Nat.reduceBEq, Nat.reduceLeDiff, Nat.reduceLT, Nat.reduceDiv, Nat.reduceMod])
      · skip
        rw [szr_ge (by omega), show l - ((x.Name.length : Int) + (x.Key.length : Int) + (x.Val.length : Int)) = l - (x.Name.length : Int) - (x.Key.length : Int) - (x.Val.length : Int) by omega]
        refine fnL_run rfl N57 Try.func57 U57 ?_; have o := o57; simp only [OE, opsR, cqR, subR, chi, Try.f57] at o
        simp only [GCell.enc, List.map_cons, List.map_nil]
        (try simp (maxSteps := 4000000) (disch := first | assumption | omega) only [go_sem, *, o, ↓bin_eqI, ↓bin_neI, Nat.reduceAdd, Nat.reduceSub, Nat.reduceMul, Nat.reduceBEq, Nat.reduceLeDiff, Nat.reduceLT, Nat.reduceDiv, Nat.reduceMod]); repeat' ((first | with_reducible first | refine caK (fun hb => ?_) fun hb => ?_ | refine caG (fun hb => ?_) fun hb => ?_ | refine caP (fun hb => ?_) fun hb => ?_ | refine caH (fun hb => ?_) fun hb => ?_ | refine caQ (fun hb => ?_) fun hb => ?_ | refine ite_cases (fun hb => ?_) fun hb => ?_ | rw [drwK_ok rfl]) <;> try simp (maxSteps := 4000000) (disch := first | assumption | omega) only [go_sem, *, o, ↓bin_eqI, ↓bin_neI, Nat.reduceAdd, Nat.reduceSub, Nat.reduceMul, Nat.reduceBEq, Nat.reduceLeDiff, Nat.reduceLT, Nat.reduceDiv, Nat.reduceMod])

theorem szCellS_loop (xs : List GCell) (hx : xs.length ≤ 1048576) (hok : ∀ x ∈ xs, GCell.ok x) : ∀ (m : Nat) (i l : Int), 0 ≤ i → i + m = xs.length → 0 ≤ l ∧ l ≤ 1048576 →
    loopC Try.prog T (fnL Try.prog T L0) 35 (cq g35 [0, 0, 1, 0, 1, 1, 1]) ⟨[.one (.c (.d (.sl 3 (rC xs)))), .one (.c (.d (.v (.int .i64 (l))))), J, J, J, .one (.c (.d (.v (.int .i64 (i))))), J, J, J, J, J, J, J, J, J, J, J, J, J, J, J, J, J, J, J, J, J], hpOf [], 0, 0⟩ =
      if l < tC (xs.drop i.toNat) then some (.ret, ⟨[J, .one (.c (.d (.v (.int .i64 (-1))))), J, J, .one (.c (.d (.v (.int .i64 (-1))))), J, J, J, J, J, J, J, J, J, J, J, J, J, J, J, J, J, J, J, J, J, J], hpOf [], 0, 0⟩) else some (.exit 0, ⟨[J, .one (.c (.d (.v (.int .i64 (l - tC (xs.drop i.toNat)))))), J, J, J, J, J, J, J, J, J, J, J, J, J, J, J, J, J, J, J, J, J, J, J, J, J], hpOf [], 0, 0⟩)
  | 0, i, l, h0, hm, hl => by
    rw [drop_end xs i (by omega), tC, if_neg (by omega), Int.sub_zero]
    clear hok
    have o := o35_1110100; simp only [OE, opsR, cqR, subR, chi, Try.f35] at o
    rw [loopC_round]
    (try simp (maxSteps := 4000000) (disch := first | assumption | omega) only [go_sem, *, rC_len, o, ↓bin_eqI, ↓bin_neI, Nat.reduceAdd, Nat.reduceSub, Nat.reduceMul, Nat.reduceBEq, Nat.reduceLeDiff, Nat.reduceLT, Nat.reduceDiv, Nat.reduceMod]); repeat' ((first | with_reducible first | refine caK (fun hb => ?_) fun hb => ?_ | refine caG (fun hb => ?_) fun hb => ?_ | refine caP (fun hb => ?_) fun hb => ?_ | refine caH (fun hb => ?_) fun hb => ?_ | refine caQ (fun hb => ?_) fun hb => ?_ | refine ite_cases (fun hb => ?_) fun hb => ?_ | rw [drwK_ok rfl]) <;> try simp (maxSteps := 4000000) (disch := first | assumption | omega) only [go_sem, *, rC_len, o, ↓bin_eqI, ↓bin_neI, Nat.reduceAdd, Nat.reduceSub, Nat.reduceMul, Nat.reduceBEq, Nat.reduceLeDiff, Nat.reduceLT, Nat.reduceDiv, Nat.reduceMod])
  | m + 1, i, l, h0, hm, hl => by
    have hil : i.toNat < xs.length := by omega
    have hd := drop_at xs i (by omega)
    have hg := rC_get xs i.toNat hil
    have hs := szCell_ok xs[i.toNat] l hl (hok xs[i.toNat] (List.getElem_mem _))
    have h1 := tEC_ge xs[i.toNat]
    have h2 := tC_ge (xs.drop (i + 1).toNat)
    rw [hd, tC]
    clear hd
    generalize xs[i.toNat] = x at hg hs h1 ⊢
    simp only [GCell.enc, List.map_cons, List.map_nil] at hg hs
    by_cases hn : l < tEC x
    · rw [szr_lt hn] at hs
      rw [if_pos (by omega)]
      clear hok
      have o := o35_1110100; simp only [OE, opsR, cqR, subR, chi, Try.f35] at o
      rw [loopC_round]
      (try simp (maxSteps := 4000000) (disch := first | assumption | omega) only [go_sem, *, rC_len, hg, hs, o, ↓bin_eqI, ↓bin_neI, Nat.reduceAdd, Nat.reduceSub, Nat.reduceMul, Nat.reduceBEq, Nat.reduceLeDiff, Nat.reduceLT, Nat.reduceDiv, Nat.reduceMod]); repeat' ((first | with_reducible first | refine caK (fun hb => ?_) fun hb => ?_ | refine caG (fun hb => ?_) fun hb => ?_ | refine caP (fun hb => ?_) fun hb => ?_ | refine caH (fun hb => ?_) fun hb => ?_ | refine caQ (fun hb => ?_) fun hb => ?_ | refine ite_cases (fun hb => ?_) fun hb => ?_ | rw [drwK_ok rfl]) <;> try simp (maxSteps := 4000000) (disch := first | assumption | omega) only [go_sem, *, rC_len, hg, hs, o, ↓bin_eqI, ↓bin_neI, Nat.reduceAdd, Nat.reduceSub, Nat.reduceMul, Nat.reduceBEq, Nat.reduceLeDiff, Nat.reduceLT, Nat.reduceDiv, Nat.reduceMod])
    · have ih := szCellS_loop xs hx hok m (i + 1) (l - tEC x) (by omega) (by omega) (by omega)
      rw [szr_ge hn] at hs
      have e : ∀ {α : Type} (a b : α), (if l < tEC x + tC (xs.drop (i + 1).toNat) then a else b) = if l - tEC x < tC (xs.drop (i + 1).toNat) then a else b := fun a b => by
        by_cases hq : l - tEC x < tC (xs.drop (i + 1).toNat)
        · rw [if_pos hq, if_pos (by omega)]
        · rw [if_neg hq, if_neg (by omega)]
      rw [e, show l - (tEC x + tC (xs.drop (i + 1).toNat)) = l - tEC x - tC (xs.drop (i + 1).toNat) by omega, ← ih]
      clear ih hok e
      have o := o35_1110100; simp only [OE, opsR, cqR, subR, chi, Try.f35] at o
      rw [loopC_round]
      (try simp (maxSteps := 4000000) (disch := first | assumption | omega) only [go_sem, *, rC_len, hg, hs, o, ↓bin_eqI, ↓bin_neI, Nat.reduceAdd, Nat.reduceSub, Nat.reduceMul, Nat.reduceBEq, Nat.reduceLeDiff, Nat.reduceLT, Nat.reduceDiv, Nat.reduceMod]); repeat' ((first | with_reducible first | refine caK (fun hb => ?_) fun hb => ?_ | refine caG (fun hb => ?_) fun hb => ?_ | refine caP (fun hb => ?_) fun hb => ?_ | refine caH (fun hb => ?_) fun hb => ?_ | refine caQ (fun hb => ?_) fun hb => ?_ | refine ite_cases (fun hb => ?_) fun hb => ?_ | rw [drwK_ok rfl]) <;> try simp (maxSteps := 4000000) (disch := first | assumption | omega) only [go_sem, *, rC_len, hg, hs, o, ↓bin_eqI, ↓bin_neI, Nat.reduceAdd, Nat.reduceSub, Nat.reduceMul, Nat.reduceBEq, Nat.reduceLeDiff, Nat.reduceLT, Nat.reduceDiv, Nat.reduceMod])
theorem szCellS_ok (xs : List GCell) (l : Int) (hl : 0 ≤ l ∧ l ≤ 1048576) (hx : xs.length ≤ maxLen) (hok : ∀ x ∈ xs, GCell.ok x) : fnL Try.prog T L0 35 [.c (.d (.sl 3 (rC xs))), .c (.d (.v (.int .i64 (l))))] [] = some (.one (.c (.d (.v (.int .i64 (szr l (xs.length + tC xs)))))), []) := by
  have : maxLen = 9223372036854775807 := rfl
  have h2 := tC_ge xs
  by_cases h : l - (xs.length : Int) < 0
  · rw [szr_lt (by omega)]
    clear hok
    refine fnL_run rfl N35 Try.func35 U35 ?_; have o := o35; simp only [OE, opsR, cqR, subR, chi, Try.f35] at o
    (try simp (maxSteps := 4000000) (disch := first | assumption | omega) only [go_sem, *, rC_len, o, ↓bin_eqI, ↓bin_neI, Nat.reduceAdd, Nat.reduceSub, Nat.reduceMul, Nat.reduceBEq, Nat.reduceLeDiff, Nat.reduceLT, Nat.reduceDiv, Nat.reduceMod]); repeat' ((first | with_reducible first | refine caK (fun hb => ?_) fun hb => ?_ | refine caG (fun hb => ?_) fun hb => ?_ | refine caP (fun hb => ?_) fun hb => ?_ | refine caH (fun hb => ?_) fun hb => ?_ | refine caQ (fun hb => ?_) fun hb => ?_ | refine ite_cases (fun hb => ?_) fun hb => ?_ | rw [drwK_ok rfl]) <;> try simp (maxSteps := 4000000) (disch := first | assumption | omega) only [go_sem, *, rC_len, o, ↓bin_eqI, ↓bin_neI, Nat.reduceAdd, Nat.reduceSub, Nat.reduceMul, Nat.reduceBEq, Nat.reduceLeDiff, Nat.reduceLT, Nat.reduceDiv, Nat.reduceMod])
  · have Lp := szCellS_loop xs (by omega) hok xs.length 0 (l - xs.length) (by omega) (by omega) (by omega)
    rw [Int.toNat_zero, List.drop_zero] at Lp
    clear hok
    by_cases hr : l - (xs.length : Int) < tC xs
    · rw [if_pos hr] at Lp
      rw [szr_lt (by omega)]
      refine fnL_run rfl N35 Try.func35 U35 ?_; have o := o35; simp only [OE, opsR, cqR, subR, chi, Try.f35] at o
      (try simp (maxSteps := 4000000) (disch := first | assumption | omega) only [go_sem, *, rC_len, Lp, o, ↓bin_eqI, ↓bin_neI, Nat.reduceAdd, Nat.reduceSub, Nat.reduceMul, Nat.reduceBEq, Nat.reduceLeDiff, Nat.reduceLT, Nat.reduceDiv, Nat.reduceMod]); repeat' ((first | with_reducible first | refine caK (fun hb => ?_) fun hb => ?_ | refine caG (fun hb => ?_) fun hb => ?_ | refine caP (fun hb => ?_) fun hb => ?_ | refine caH (fun hb => ?_) fun hb => ?_ | refine caQ (fun hb => ?_) fun hb => ?_ | refine ite_cases (fun hb => ?_) fun hb => ?_ | rw [drwK_ok rfl]) <;> try simp (maxSteps := 4000000) (disch := first | assumption | omega) only [go_sem, *, rC_len, Lp, o, ↓bin_eqI, ↓bin_neI, Nat.reduceAdd, Nat.reduceSub, Nat.reduceMul, Nat.reduceBEq, Nat.reduceLeDiff, Nat.reduceLT, Nat.reduceDiv, Nat.reduceMod])
    · rw [if_neg hr] at Lp
      rw [szr_ge (by omega), show l - (xs.length + tC xs) = l - xs.length - tC xs by omega]
      refine fnL_run rfl N35 Try.func35 U35 ?_; have o := o35; simp only [OE, opsR, cqR, subR, chi, Try.f35] at o
      (try simp (maxSteps := 4000000) (disch := first | assumption | omega) only [go_sem, *, rC_len, Lp, o, ↓bin_eqI, ↓bin_neI, Nat.reduceAdd, Nat.reduceSub, Nat.reduceMul, Nat.reduceBEq, Nat.reduceLeDiff, Nat.reduceLT, Nat.reduceDiv, Nat.reduceMod]); repeat' ((first | with_reducible first | refine caK (fun hb => ?_) fun hb => ?_ | refine caG (fun hb => ?_) fun hb => ?_ | refine caP (fun hb => ?_) fun hb => ?_ | refine caH (fun hb => ?_) fun hb => ?_ | refine caQ (fun hb => ?_) fun hb => ?_ | refine ite_cases (fun hb => ?_) fun hb => ?_ | rw [drwK_ok rfl]) <;> try simp (maxSteps := 4000000) (disch := first | assumption | omega) only [go_sem, *, rC_len, Lp, o, ↓bin_eqI, ↓bin_neI, Nat.reduceAdd, Nat.reduceSub, Nat.reduceMul, Nat.reduceBEq, Nat.reduceLeDiff, Nat.reduceLT, Nat.reduceDiv, Nat.reduceMod])
end
end Go.Vsi
