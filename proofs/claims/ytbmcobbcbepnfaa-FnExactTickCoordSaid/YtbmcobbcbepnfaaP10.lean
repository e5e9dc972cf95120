/- What the functions of the program, of the reference and of the law do (a part of it). -/
import Derived.Test.YtbmcobbcbepnfaaP9
namespace Go.Vsi
open Go.Proofs
noncomputable section
set_option maxRecDepth 100000
set_option maxHeartbeats 4000000
set_option linter.unusedSimpArgs false
set_option linter.unusedVariables false
attribute [local go_sem] List.isEmpty_nil Bool.true_or Bool.and_true Bool.and_self Bool.false_eq_true Bool.not_true Bool.not_false List.set_cons_zero List.set_cons_succ frzSt wantedA evA constW ofVal plain oneOf noUp toVal cellVal putA startA List.length_cons List.length_nil List.map_cons List.map_nil List.replicate List.cons_append List.nil_append List.getElem?_cons_succ List.getElem?_cons_zero List.getElem?_toArray List.set upd Option.bind resA resOne giveA seenOf idsAt reach renH renW renV renS renB idsW idsV idsS frzW frzV frzS List.filter_nil List.range_zero List.flatMap_nil List.flatMap_cons List.append_nil List.range List.range.loop sliceLen intV List.length_map one partA ordOf canon junkBut List.elem_cons List.elem_nil Bool.false_or Bool.or_false Bool.or_true cond_true cond_false firstReg evL opTmps footA cut callOk List.all_nil List.all_cons Op.operands Array.toList List.filterMap_cons List.filterMap_nil lendCall ownCall lendVs lendV lendS plainW plainV plainS List.zipIdx_nil hpOf Array.toList_map idsB natBle beq_self_eq_true Int.toNat_natCast Option.map_some Option.map_none ix cellsV Nat.zero_add List.any_nil List.any_cons List.take_zero List.take_succ_cons List.take_nil List.drop_succ_cons List.drop_zero List.drop_nil toD toDs List.filter_cons Nat.zero_le Nat.le_refl frzH ite_true ite_false if_true if_false stpO_some opsO_nil opsO_cons stpD_some nthD_some drawO_nil drawO_cons decTrue decFalse callA natBeq decT decF B_size B_mk B_empty B_append B_extract decide_eq_true_eq Bool.not_eq_true' decide_eq_false_iff_not Bool.and_eq_true Bool.or_eq_true boundsA sliceA B_toList Bool.and_false Bool.false_and Bool.true_and backOf List.zipIdx_cons Option.getD_some Option.getD_none Nat.sub_self fillA rowsOf toRows List.flatten_cons List.flatten_nil appendA sliceRows lendSs capPtr opO_pick opO_move opO_assign opO_extract opO_nilCheck opO_unOp opO_binOp opO_convert opO_index opO_field opO_alloc opO_box opO_build opO_buildSlice opO_makeSlice opO_load opO_store opO_fieldAddr opO_indexAddr opO_slice opO_makeFunc opO_builtin opO_fn regK_some lopK_some lopK_ite map_get endA preK_some preA_cons preA_nil thenP_some pre1 preId preRow narRow narCell outOf dropOut setO renO toO toOs toRowsO nodupB isArrS nestT appendN narOuts O.flat Int.natCast_nonneg decide_true decide_false preR_some preD_some condK_true condK_false grdO_true grdO_false grdD_true grdD_false pickO_true pickO_false if_pos if_neg eqI_self eqI_t eqI_f true_and and_true and_self not_true_eq_false not_false_eq_true Bool.not_not Go.Call.operands closedB List.all_append List.filterMap_append Array.toList_append List.flatMap_append Bool.or_self List.getElem?_nil Bool.true_beq Bool.false_beq G30 I3 S3 C3 A3 B3 Try.underlying3 Z3 I9 S9 C9 A9 B9 Try.underlying9 Z9 I22 S22 C22 A22 B22 Try.underlying22 E22 Z22 K30_2 O30_2 H50 Y50 R30 M30 G53 I34 S34 C34 A34 B34 Try.underlying34 E34 Z34 I94 S94 C94 A94 B94 Try.underlying94 Z94 K53_2 O53_2 R53 M53 G54 I37 S37 C37 A37 B37 Try.underlying37 E37 Z37 I97 S97 C97 A97 B97 Try.underlying97 Z97 K54_2 O54_2 R54 M54 G55 I38 S38 C38 A38 B38 Try.underlying38 E38 Z38 I99 S99 C99 A99 B99 Try.underlying99 Z99 K55_2 O55_2 R55 M55
attribute [local go_sem ↓] ite_dec popK_nil popK_seq popK_seqE popK_seqR popK_blk popK_blkR popK_blkE endF_normal endF_ret q30_ q30_0 q30_1 q30_10 q30_100 q30_101 q30_1010 q30_10100 q30_101000 q30_1010000 q30_1010001 q30_10100010 q30_10100011 q30_101001 q30_1010010 q30_10100100 q30_101001000 q30_1010010000 q30_1010010001 q30_10100100010 q30_101001000100 q30_101001000101 q30_10100100011 q30_101001001 q30_1010011 q30_11 q30_110 q30_111 q53_ q53_0 q53_1 q53_10 q53_100 q53_101 q53_1010 q53_10100 q53_101000 q53_1010000 q53_1010001 q53_10100010 q53_10100011 q53_101001 q53_1010010 q53_10100100 q53_101001000 q53_1010010000 q53_1010010001 q53_10100100010 q53_101001000100 q53_101001000101 q53_10100100011 q53_101001001 q53_1010010010 q53_1010010011 q53_10100100110 q53_101001001100 q53_101001001101 q53_1010010011010 q53_10100100110100 q53_10100100110101 q53_1010010011011 q53_10100100111 q53_1010011 q53_11 q53_110 q53_111 q54_ q54_0 q54_1 q54_10 q54_100 q54_101 q54_1010 q54_10100 q54_101000 q54_1010000 q54_1010001 q54_10100010 q54_10100011 q54_101001 q54_1010010 q54_10100100 q54_101001000 q54_1010010000 q54_1010010001 q54_10100100010 q54_101001000100 q54_101001000101 q54_10100100011 q54_101001001 q54_1010010010 q54_1010010011 q54_10100100110 q54_101001001100 q54_101001001101 q54_1010010011010 q54_10100100110100 q54_10100100110101 q54_1010010011011 q54_10100100111 q54_1010011 q54_11 q54_110 q54_111 q55_ q55_0 q55_1 q55_10 q55_100 q55_101 q55_1010 q55_10100 q55_101000 q55_1010000 q55_1010001 q55_10100010 q55_10100011 q55_101001 q55_1010010 q55_10100100 q55_101001000 q55_1010010000 q55_1010010001 q55_10100100010 q55_101001000100 q55_101001000101 q55_10100100011 q55_101001001 q55_1010010010 q55_1010010011 q55_10100100110 q55_101001001100 q55_101001001101 q55_1010010011010 q55_10100100110100 q55_10100100110101 q55_1010010011011 q55_10100100111 q55_101001001110 q55_101001001111 q55_1010010011110 q55_10100100111100 q55_10100100111101 q55_101001001111010 q55_1010010011110100 q55_1010010011110101 q55_101001001111011 q55_1010010011111 q55_1010011 q55_11 q55_110 q55_111 bin_add bin_sub bin_mul bin_lss bin_leq bin_gtr bin_geq un_not min_int max_int wrap64' wrap_u8 wrap_i32 wrap64_byte wrap8_byte wrap32_byte bin_eqB bin_neB bin_addB IX9
theorem drop_cons {α : Type} {l : List α} {n : Nat} {x : α} {r : List α} (h : l.drop n = x :: r) : l[n]? = some x ∧ l.drop (n + 1) = r := by
  have h1 : (l.drop n)[0]? = some x := by rw [h]; rfl
  have h2 : (l.drop n).drop 1 = r := by rw [h]; rfl
  rw [List.getElem?_drop] at h1
  rw [List.drop_drop] at h2
  exact ⟨by simpa using h1, h2⟩

theorem heldStringS_loop (ys : List (List UInt8)) (hx : ys.length ≤ 1048576) : ∀ (m : Nat) (i k : Int), 0 ≤ i → i + m = ys.length → ys.drop i.toNat = mS m k → 0 ≤ k → k + (m : Int) ≤ 1000000000 →
    loopC Try.prog T (fnL Try.prog T L0) 30 (cq g30 [0, 0, 1, 0, 1]) ⟨[.one (.c (.d (.sl 1 (rS ys)))), .one (.c (.d (.v (.int .i64 (k))))), J, J, J, .one (.c (.d (.v (.int .i64 (i))))), J, J, J, J, J, J, J, J, J, J, J, J, J, J, J, J], hpOf [], 0, 0⟩ = some (.exit 0, ⟨[J, .one (.c (.d (.v (.int .i64 (k + (m : Int)))))), J, J, J, J, J, J, J, J, J, J, J, J, J, J, J, J, J, J, J, J], hpOf [], 0, 0⟩)
  | 0, i, k, hi, hm, hd, hk, hb => by
    simp only [Int.natCast_zero, Int.mul_zero, Int.add_zero]
    clear hd
    have o := o30_10100; simp only [OE, opsR, cqR, subR, chi, Try.f30] at o
    rw [loopC_round]
    (try simp (maxSteps := 4000000) (disch := first | assumption | omega) only [go_sem, *, rS_len, o, ↓bin_eqI, ↓bin_neI, Nat.reduceAdd, Nat.reduceSub, Nat.reduceMul, Nat.reduceBEq, Nat.reduceLeDiff, Nat.reduceLT, Nat.reduceDiv, Nat.reduceMod]); repeat' ((first | with_reducible first | refine caK (fun hb => ?_) fun hb => ?_ | refine caG (fun hb => ?_) fun hb => ?_ | refine caP (fun hb => ?_) fun hb => ?_ | refine caH (fun hb => ?_) fun hb => ?_ | refine caQ (fun hb => ?_) fun hb => ?_ | refine ite_cases (fun hb => ?_) fun hb => ?_ | rw [drwK_ok rfl]) <;> try simp (maxSteps := 4000000) (disch := first | assumption | omega) only [go_sem, *, rS_len, o, ↓bin_eqI, ↓bin_neI, Nat.reduceAdd, Nat.reduceSub, Nat.reduceMul, Nat.reduceBEq, Nat.reduceLeDiff, Nat.reduceLT, Nat.reduceDiv, Nat.reduceMod])
  | m + 1, i, k, hi, hm, hd, hk, hb => by
    obtain ⟨hg, hd⟩ := drop_cons hd
    have ih := heldStringS_loop ys hx m (i + 1) (k + 1) (by omega) (by omega) (by rw [show (i + 1).toNat = i.toNat + 1 by omega]; exact hd) (by omega) (by omega)
    have hg : (rS ys)[i.toNat]? = some [.v (.string (B (mT (k))))] := by unfold rS; rw [List.getElem?_map, hg]; rfl
    rw [show k + ((m + 1 : Nat) : Int) = k + 1 + (m : Int) by omega]
    have t0 := markText_ok (k) (by omega)
    rw [← ih]
    clear ih hd
    have o := o30_10100; simp only [OE, opsR, cqR, subR, chi, Try.f30] at o
    rw [loopC_round]
    (try simp (maxSteps := 4000000) (disch := first | assumption | omega) only [go_sem, *, hg, rS_len, t0, o, ↓bin_eqI, ↓bin_neI, Nat.reduceAdd, Nat.reduceSub, Nat.reduceMul, Nat.reduceBEq, Nat.reduceLeDiff, Nat.reduceLT, Nat.reduceDiv, Nat.reduceMod]); repeat' ((first | with_reducible first | refine caK (fun hb => ?_) fun hb => ?_ | refine caG (fun hb => ?_) fun hb => ?_ | refine caP (fun hb => ?_) fun hb => ?_ | refine caH (fun hb => ?_) fun hb => ?_ | refine caQ (fun hb => ?_) fun hb => ?_ | refine ite_cases (fun hb => ?_) fun hb => ?_ | rw [drwK_ok rfl]) <;> try simp (maxSteps := 4000000) (disch := first | assumption | omega) only [go_sem, *, hg, rS_len, t0, o, ↓bin_eqI, ↓bin_neI, Nat.reduceAdd, Nat.reduceSub, Nat.reduceMul, Nat.reduceBEq, Nat.reduceLeDiff, Nat.reduceLT, Nat.reduceDiv, Nat.reduceMod])
theorem heldStringS_ok (n : Nat) (k : Int) (hx : n ≤ 1048576) (hk : 0 ≤ k) (hb : k + (n : Int) ≤ 1000000000) : fnL Try.prog T L0 30 [.c (.d (.sl 1 (rS (mS n k)))), .c (.d (.v (.int .i64 (k))))] [] = some (.one (.c (.d (.v (.int .i64 (k + (n : Int)))))), []) := by
  have hl := mS_len n k
  have Lp := heldStringS_loop (mS n k) (by omega) n 0 k (by omega) (by omega) rfl hk hb
  refine fnL_run rfl N30 Try.func30 U30 ?_; have o := o30; simp only [OE, opsR, cqR, subR, chi, Try.f30] at o
  (try simp (maxSteps := 4000000) (disch := first | assumption | omega) only [go_sem, *, Lp, o, ↓bin_eqI, ↓bin_neI, Nat.reduceAdd, Nat.reduceSub, Nat.reduceMul, Nat.reduceBEq, Nat.reduceLeDiff, Nat.reduceLT, Nat.reduceDiv, Nat.reduceMod]); repeat' ((first | with_reducible first | refine caK (fun hb => ?_) fun hb => ?_ | refine caG (fun hb => ?_) fun hb => ?_ | refine caP (fun hb => ?_) fun hb => ?_ | refine caH (fun hb => ?_) fun hb => ?_ | refine caQ (fun hb => ?_) fun hb => ?_ | refine ite_cases (fun hb => ?_) fun hb => ?_ | rw [drwK_ok rfl]) <;> try simp (maxSteps := 4000000) (disch := first | assumption | omega) only [go_sem, *, Lp, o, ↓bin_eqI, ↓bin_neI, Nat.reduceAdd, Nat.reduceSub, Nat.reduceMul, Nat.reduceBEq, Nat.reduceLeDiff, Nat.reduceLT, Nat.reduceDiv, Nat.reduceMod])

theorem heldInstrS_loop (ys : List (GInstr)) (hx : ys.length ≤ 1048576) : ∀ (m : Nat) (i k : Int), 0 ≤ i → i + m = ys.length → ys.drop i.toNat = mIn m k → 0 ≤ k → k + 2 * (m : Int) ≤ 1000000000 →
    loopC Try.prog T (fnL Try.prog T L0) 53 (cq g53 [0, 0, 1, 0, 1]) ⟨[.one (.c (.d (.sl 2 (rIn ys)))), .one (.c (.d (.v (.int .i64 (k))))), J, J, J, .one (.c (.d (.v (.int .i64 (i))))), J, J, J, J, J, J, J, J, J, J, J, J, J, J, J, J, J, J, J, J, J, J, J, J, J], hpOf [], 0, 0⟩ = some (.exit 0, ⟨[J, .one (.c (.d (.v (.int .i64 (k + 2 * (m : Int)))))), J, J, J, J, J, J, J, J, J, J, J, J, J, J, J, J, J, J, J, J, J, J, J, J, J, J, J, J, J], hpOf [], 0, 0⟩)
  | 0, i, k, hi, hm, hd, hk, hb => by
    simp only [Int.natCast_zero, Int.mul_zero, Int.add_zero]
    clear hd
    have o := o53_10100; simp only [OE, opsR, cqR, subR, chi, Try.f53] at o
    rw [loopC_round]
    (try simp (maxSteps := 4000000) (disch := first | assumption | omega) only [go_sem, *, rIn_len, o, ↓bin_eqI, ↓bin_neI, Nat.reduceAdd, Nat.reduceSub, Nat.reduceMul, Nat.reduceBEq, Nat.reduceLeDiff, Nat.reduceLT, Nat.reduceDiv, Nat.reduceMod]); repeat' ((first | with_reducible first | refine caK (fun hb => ?_) fun hb => ?_ | refine caG (fun hb => ?_) fun hb => ?_ | refine caP (fun hb => ?_) fun hb => ?_ | refine caH (fun hb => ?_) fun hb => ?_ | refine caQ (fun hb => ?_) fun hb => ?_ | refine ite_cases (fun hb => ?_) fun hb => ?_ | rw [drwK_ok rfl]) <;> try simp (maxSteps := 4000000) (disch := first | assumption | omega) only [go_sem, *, rIn_len, o, ↓bin_eqI, ↓bin_neI, Nat.reduceAdd, Nat.reduceSub, Nat.reduceMul, Nat.reduceBEq, Nat.reduceLeDiff, Nat.reduceLT, Nat.reduceDiv, Nat.reduceMod])
  | m + 1, i, k, hi, hm, hd, hk, hb => by
    obtain ⟨hg, hd⟩ := drop_cons hd
    have ih := heldInstrS_loop ys hx m (i + 1) (k + 1 + 1) (by omega) (by omega) (by rw [show (i + 1).toNat = i.toNat + 1 by omega]; exact hd) (by omega) (by omega)
    have hg : (rIn ys)[i.toNat]? = some [.v (.int .i64 (k)), .v (.int .i64 (k + 1))] := by unfold rIn; rw [List.getElem?_map, hg]; rfl
    rw [show k + 2 * ((m + 1 : Nat) : Int) = k + 1 + 1 + 2 * (m : Int) by omega]
    rw [← ih]
    clear ih hd
    have o := o53_10100; simp only [OE, opsR, cqR, subR, chi, Try.f53] at o
    rw [loopC_round]
    (try simp (maxSteps := 4000000) (disch := first | assumption | omega) only [go_sem, *, hg, rIn_len, o, ↓bin_eqI, ↓bin_neI, Nat.reduceAdd, Nat.reduceSub, Nat.reduceMul, Nat.reduceBEq, Nat.reduceLeDiff, Nat.reduceLT, Nat.reduceDiv, Nat.reduceMod]); repeat' ((first | with_reducible first | refine caK (fun hb => ?_) fun hb => ?_ | refine caG (fun hb => ?_) fun hb => ?_ | refine caP (fun hb => ?_) fun hb => ?_ | refine caH (fun hb => ?_) fun hb => ?_ | refine caQ (fun hb => ?_) fun hb => ?_ | refine ite_cases (fun hb => ?_) fun hb => ?_ | rw [drwK_ok rfl]) <;> try simp (maxSteps := 4000000) (disch := first | assumption | omega) only [go_sem, *, hg, rIn_len, o, ↓bin_eqI, ↓bin_neI, Nat.reduceAdd, Nat.reduceSub, Nat.reduceMul, Nat.reduceBEq, Nat.reduceLeDiff, Nat.reduceLT, Nat.reduceDiv, Nat.reduceMod])
theorem heldInstrS_ok (n : Nat) (k : Int) (hx : n ≤ 1048576) (hk : 0 ≤ k) (hb : k + 2 * (n : Int) ≤ 1000000000) : fnL Try.prog T L0 53 [.c (.d (.sl 2 (rIn (mIn n k)))), .c (.d (.v (.int .i64 (k))))] [] = some (.one (.c (.d (.v (.int .i64 (k + 2 * (n : Int)))))), []) := by
  have hl := mIn_len n k
  have Lp := heldInstrS_loop (mIn n k) (by omega) n 0 k (by omega) (by omega) rfl hk hb
  refine fnL_run rfl N53 Try.func53 U53 ?_; have o := o53; simp only [OE, opsR, cqR, subR, chi, Try.f53] at o
  (try simp (maxSteps := 4000000) (disch := first | assumption | omega) only [go_sem, *, Lp, o, ↓bin_eqI, ↓bin_neI, Nat.reduceAdd, Nat.reduceSub, Nat.reduceMul, Nat.reduceBEq, Nat.reduceLeDiff, Nat.reduceLT, Nat.reduceDiv, Nat.reduceMod]); repeat' ((first | with_reducible first | refine caK (fun hb => ?_) fun hb => ?_ | refine caG (fun hb => ?_) fun hb => ?_ | refine caP (fun hb => ?_) fun hb => ?_ | refine caH (fun hb => ?_) fun hb => ?_ | refine caQ (fun hb => ?_) fun hb => ?_ | refine ite_cases (fun hb => ?_) fun hb => ?_ | rw [drwK_ok rfl]) <;> try simp (maxSteps := 4000000) (disch := first | assumption | omega) only [go_sem, *, Lp, o, ↓bin_eqI, ↓bin_neI, Nat.reduceAdd, Nat.reduceSub, Nat.reduceMul, Nat.reduceBEq, Nat.reduceLeDiff, Nat.reduceLT, Nat.reduceDiv, Nat.reduceMod])

theorem heldVarS_loop (ys : List (GVar)) (hx : ys.length ≤ 1048576) : ∀ (m : Nat) (i k : Int), 0 ≤ i → i + m = ys.length → ys.drop i.toNat = mV m k → 0 ≤ k → k + 2 * (m : Int) ≤ 1000000000 →
    loopC Try.prog T (fnL Try.prog T L0) 54 (cq g54 [0, 0, 1, 0, 1]) ⟨[.one (.c (.d (.sl 2 (rV ys)))), .one (.c (.d (.v (.int .i64 (k))))), J, J, J, .one (.c (.d (.v (.int .i64 (i))))), J, J, J, J, J, J, J, J, J, J, J, J, J, J, J, J, J, J, J, J, J, J, J, J, J, J, J], hpOf [], 0, 0⟩ = some (.exit 0, ⟨[J, .one (.c (.d (.v (.int .i64 (k + 2 * (m : Int)))))), J, J, J, J, J, J, J, J, J, J, J, J, J, J, J, J, J, J, J, J, J, J, J, J, J, J, J, J, J, J, J], hpOf [], 0, 0⟩)
  | 0, i, k, hi, hm, hd, hk, hb => by
    simp only [Int.natCast_zero, Int.mul_zero, Int.add_zero]
    clear hd
    have o := o54_10100; simp only [OE, opsR, cqR, subR, chi, Try.f54] at o
    rw [loopC_round]
    (try simp (maxSteps := 4000000) (disch := first | assumption | omega) only [go_sem, *, rV_len, o, ↓bin_eqI, ↓bin_neI, Nat.reduceAdd, Nat.reduceSub, Nat.reduceMul, Nat.reduceBEq, Nat.reduceLeDiff, Nat.reduceLT, Nat.reduceDiv, Nat.reduceMod]); repeat' ((first | with_reducible first | refine caK (fun hb => ?_) fun hb => ?_ | refine caG (fun hb => ?_) fun hb => ?_ | refine caP (fun hb => ?_) fun hb => ?_ | refine caH (fun hb => ?_) fun hb => ?_ | refine caQ (fun hb => ?_) fun hb => ?_ | refine ite_cases (fun hb => ?_) fun hb => ?_ | rw [drwK_ok rfl]) <;> try simp (maxSteps := 4000000) (disch := first | assumption | omega) only [go_sem, *, rV_len, o, ↓bin_eqI, ↓bin_neI, Nat.reduceAdd, Nat.reduceSub, Nat.reduceMul, Nat.reduceBEq, Nat.reduceLeDiff, Nat.reduceLT, Nat.reduceDiv, Nat.reduceMod])
  | m + 1, i, k, hi, hm, hd, hk, hb => by
    obtain ⟨hg, hd⟩ := drop_cons hd
    have ih := heldVarS_loop ys hx m (i + 1) (k + 1 + 1) (by omega) (by omega) (by rw [show (i + 1).toNat = i.toNat + 1 by omega]; exact hd) (by omega) (by omega)
    have hg : (rV ys)[i.toNat]? = some [.v (.string (B (mT (k)))), .v (.string (B (mT (k + 1))))] := by unfold rV; rw [List.getElem?_map, hg]; rfl
    rw [show k + 2 * ((m + 1 : Nat) : Int) = k + 1 + 1 + 2 * (m : Int) by omega]
    have t0 := markText_ok (k) (by omega)
    have t1 := markText_ok (k + 1) (by omega)
    rw [← ih]
    clear ih hd
    have o := o54_10100; simp only [OE, opsR, cqR, subR, chi, Try.f54] at o
    rw [loopC_round]
    (try simp (maxSteps := 4000000) (disch := first | assumption | omega) only [go_sem, *, hg, rV_len, t0, t1, o, ↓bin_eqI, ↓bin_neI, Nat.reduceAdd, Nat.reduceSub, Nat.reduceMul, Nat.reduceBEq, Nat.reduceLeDiff, Nat.reduceLT, Nat.reduceDiv, Nat.reduceMod]); repeat' ((first | with_reducible first | refine caK (fun hb => ?_) fun hb => ?_ | refine caG (fun hb => ?_) fun hb => ?_ | refine caP (fun hb => ?_) fun hb => ?_ | refine caH (fun hb => ?_) fun hb => ?_ | refine caQ (fun hb => ?_) fun hb => ?_ | refine ite_cases (fun hb => ?_) fun hb => ?_ | rw [drwK_ok rfl]) <;> try simp (maxSteps := 4000000) (disch := first | assumption | omega) only [go_sem, *, hg, rV_len, t0, t1, o, ↓bin_eqI, ↓bin_neI, Nat.reduceAdd, Nat.reduceSub, Nat.reduceMul, Nat.reduceBEq, Nat.reduceLeDiff, Nat.reduceLT, Nat.reduceDiv, Nat.reduceMod])
theorem heldVarS_ok (n : Nat) (k : Int) (hx : n ≤ 1048576) (hk : 0 ≤ k) (hb : k + 2 * (n : Int) ≤ 1000000000) : fnL Try.prog T L0 54 [.c (.d (.sl 2 (rV (mV n k)))), .c (.d (.v (.int .i64 (k))))] [] = some (.one (.c (.d (.v (.int .i64 (k + 2 * (n : Int)))))), []) := by
  have hl := mV_len n k
  have Lp := heldVarS_loop (mV n k) (by omega) n 0 k (by omega) (by omega) rfl hk hb
  refine fnL_run rfl N54 Try.func54 U54 ?_; have o := o54; simp only [OE, opsR, cqR, subR, chi, Try.f54] at o
  (try simp (maxSteps := 4000000) (disch := first | assumption | omega) only [go_sem, *, Lp, o, ↓bin_eqI, ↓bin_neI, Nat.reduceAdd, Nat.reduceSub, Nat.reduceMul, Nat.reduceBEq, Nat.reduceLeDiff, Nat.reduceLT, Nat.reduceDiv, Nat.reduceMod]); repeat' ((first | with_reducible first | refine caK (fun hb => ?_) fun hb => ?_ | refine caG (fun hb => ?_) fun hb => ?_ | refine caP (fun hb => ?_) fun hb => ?_ | refine caH (fun hb => ?_) fun hb => ?_ | refine caQ (fun hb => ?_) fun hb => ?_ | refine ite_cases (fun hb => ?_) fun hb => ?_ | rw [drwK_ok rfl]) <;> try simp (maxSteps := 4000000) (disch := first | assumption | omega) only [go_sem, *, Lp, o, ↓bin_eqI, ↓bin_neI, Nat.reduceAdd, Nat.reduceSub, Nat.reduceMul, Nat.reduceBEq, Nat.reduceLeDiff, Nat.reduceLT, Nat.reduceDiv, Nat.reduceMod])

theorem heldCellS_loop (ys : List (GCell)) (hx : ys.length ≤ 1048576) : ∀ (m : Nat) (i k : Int), 0 ≤ i → i + m = ys.length → ys.drop i.toNat = mC m k → 0 ≤ k → k + 3 * (m : Int) ≤ 1000000000 →
    loopC Try.prog T (fnL Try.prog T L0) 55 (cq g55 [0, 0, 1, 0, 1]) ⟨[.one (.c (.d (.sl 3 (rC ys)))), .one (.c (.d (.v (.int .i64 (k))))), J, J, J, .one (.c (.d (.v (.int .i64 (i))))), J, J, J, J, J, J, J, J, J, J, J, J, J, J, J, J, J, J, J, J, J, J, J, J, J, J, J, J, J, J, J, J, J, J, J, J, J], hpOf [], 0, 0⟩ = some (.exit 0, ⟨[J, .one (.c (.d (.v (.int .i64 (k + 3 * (m : Int)))))), J, J, J, J, J, J, J, J, J, J, J, J, J, J, J, J, J, J, J, J, J, J, J, J, J, J, J, J, J, J, J, J, J, J, J, J, J, J, J, J, J], hpOf [], 0, 0⟩)
  | 0, i, k, hi, hm, hd, hk, hb => by
    simp only [Int.natCast_zero, Int.mul_zero, Int.add_zero]
    clear hd
    have o := o55_10100; simp only [OE, opsR, cqR, subR, chi, Try.f55] at o
    rw [loopC_round]
    (try simp (maxSteps := 4000000) (disch := first | assumption | omega) only [go_sem, *, rC_len, o, ↓bin_eqI, ↓bin_neI, Nat.reduceAdd, Nat.reduceSub, Nat.reduceMul, Nat.reduceBEq, Nat.reduceLeDiff, Nat.reduceLT, Nat.reduceDiv, Nat.reduceMod]); repeat' ((first | with_reducible first | refine caK (fun hb => ?_) fun hb => ?_ | refine caG (fun hb => ?_) fun hb => ?_ | refine caP (fun hb => ?_) fun hb => ?_ | refine caH (fun hb => ?_) fun hb => ?_ | refine caQ (fun hb => ?_) fun hb => ?_ | refine ite_cases (fun hb => ?_) fun hb => ?_ | rw [drwK_ok rfl]) <;> try simp (maxSteps := 4000000) (disch := first | assumption | omega) only [go_sem, *, rC_len, o, ↓bin_eqI, ↓bin_neI, Nat.reduceAdd, Nat.reduceSub, Nat.reduceMul, Nat.reduceBEq, Nat.reduceLeDiff, Nat.reduceLT, Nat.reduceDiv, Nat.reduceMod])
  | m + 1, i, k, hi, hm, hd, hk, hb => by
    obtain ⟨hg, hd⟩ := drop_cons hd
    have ih := heldCellS_loop ys hx m (i + 1) (k + 1 + 1 + 1) (by omega) (by omega) (by rw [show (i + 1).toNat = i.toNat + 1 by omega]; exact hd) (by omega) (by omega)
    have hg : (rC ys)[i.toNat]? = some [.v (.string (B (mT (k)))), .v (.string (B (mT (k + 1)))), .v (.string (B (mT (k + 1 + 1))))] := by unfold rC; rw [List.getElem?_map, hg]; rfl
    rw [show k + 3 * ((m + 1 : Nat) : Int) = k + 1 + 1 + 1 + 3 * (m : Int) by omega]
    have t0 := markText_ok (k) (by omega)
    have t1 := markText_ok (k + 1) (by omega)
    have t2 := markText_ok (k + 1 + 1) (by omega)
    rw [← ih]
    clear ih hd
    have o := o55_10100; simp only [OE, opsR, cqR, subR, chi, Try.f55] at o
    rw [loopC_round]
    (try simp (maxSteps := 4000000) (disch := first | assumption | omega) only [go_sem, *, hg, rC_len, t0, t1, t2, o, ↓bin_eqI, ↓bin_neI, Nat.reduceAdd, Nat.reduceSub, Nat.reduceMul, Nat.reduceBEq, Nat.reduceLeDiff, Nat.reduceLT, Nat.reduceDiv, Nat.reduceMod]); repeat' ((first | with_reducible first | refine caK (fun hb => ?_) fun hb => ?_ | refine caG (fun hb => ?_) fun hb => ?_ | refine caP (fun hb => ?_) fun hb => ?_ | refine caH (fun hb => ?_) fun hb => ?_ | refine caQ (fun hb => ?_) fun hb => ?_ | refine ite_cases (fun hb => ?_) fun hb => ?_ | rw [drwK_ok rfl]) <;> try simp (maxSteps := 4000000) (disch := first | assumption | omega) only [go_sem, *, hg, rC_len, t0, t1, t2, o, ↓bin_eqI, ↓bin_neI, Nat.reduceAdd, Nat.reduceSub, Nat.reduceMul, Nat.reduceBEq, Nat.reduceLeDiff, Nat.reduceLT, Nat.reduceDiv, Nat.reduceMod])
theorem heldCellS_ok (n : Nat) (k : Int) (hx : n ≤ 1048576) (hk : 0 ≤ k) (hb : k + 3 * (n : Int) ≤ 1000000000) : fnL Try.prog T L0 55 [.c (.d (.sl 3 (rC (mC n k)))), .c (.d (.v (.int .i64 (k))))] [] = some (.one (.c (.d (.v (.int .i64 (k + 3 * (n : Int)))))), []) := by
  have hl := mC_len n k
  have Lp := heldCellS_loop (mC n k) (by omega) n 0 k (by omega) (by omega) rfl hk hb
  refine fnL_run rfl N55 Try.func55 U55 ?_; have o := o55; simp only [OE, opsR, cqR, subR, chi, Try.f55] at o
  (try simp (maxSteps := 4000000) (disch := first | assumption | omega) only [go_sem, *, Lp, o, ↓bin_eqI, ↓bin_neI, Nat.reduceAdd, Nat.reduceSub, Nat.reduceMul, Nat.reduceBEq, Nat.reduceLeDiff, Nat.reduceLT, Nat.reduceDiv, Nat.reduceMod]); repeat' ((first | with_reducible first | refine caK (fun hb => ?_) fun hb => ?_ | refine caG (fun hb => ?_) fun hb => ?_ | refine caP (fun hb => ?_) fun hb => ?_ | refine caH (fun hb => ?_) fun hb => ?_ | refine caQ (fun hb => ?_) fun hb => ?_ | refine ite_cases (fun hb => ?_) fun hb => ?_ | rw [drwK_ok rfl]) <;> try simp (maxSteps := 4000000) (disch := first | assumption | omega) only [go_sem, *, Lp, o, ↓bin_eqI, ↓bin_neI, Nat.reduceAdd, Nat.reduceSub, Nat.reduceMul, Nat.reduceBEq, Nat.reduceLeDiff, Nat.reduceLT, Nat.reduceDiv, Nat.reduceMod])
end
end Go.Vsi
