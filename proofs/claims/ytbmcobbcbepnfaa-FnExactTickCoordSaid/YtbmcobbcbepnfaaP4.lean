/- What the functions of the program, of the reference and of the law do (a part of it). -/
import Derived.Test.YtbmcobbcbepnfaaP1
namespace Go.Vsi
open Go.Proofs
noncomputable section
set_option maxRecDepth 100000
set_option maxHeartbeats 4000000
set_option linter.unusedSimpArgs false
set_option linter.unusedVariables false
attribute [local go_sem] List.isEmpty_nil Bool.true_or Bool.and_true Bool.and_self Bool.false_eq_true Bool.not_true Bool.not_false List.set_cons_zero List.set_cons_succ frzSt wantedA evA constW ofVal plain oneOf noUp toVal cellVal putA startA List.length_cons List.length_nil List.map_cons List.map_nil List.replicate List.cons_append List.nil_append List.getElem?_cons_succ List.getElem?_cons_zero List.getElem?_toArray List.set upd Option.bind resA resOne giveA seenOf idsAt reach renH renW renV renS renB idsW idsV idsS frzW frzV frzS List.filter_nil List.range_zero List.flatMap_nil List.flatMap_cons List.append_nil List.range List.range.loop sliceLen intV List.length_map one partA ordOf canon junkBut List.elem_cons List.elem_nil Bool.false_or Bool.or_false Bool.or_true cond_true cond_false firstReg evL opTmps footA cut callOk List.all_nil List.all_cons Op.operands Array.toList List.filterMap_cons List.filterMap_nil lendCall ownCall lendVs lendV lendS plainW plainV plainS List.zipIdx_nil hpOf Array.toList_map idsB natBle beq_self_eq_true Int.toNat_natCast Option.map_some Option.map_none ix cellsV Nat.zero_add List.any_nil List.any_cons List.take_zero List.take_succ_cons List.take_nil List.drop_succ_cons List.drop_zero List.drop_nil toD toDs List.filter_cons Nat.zero_le Nat.le_refl frzH ite_true ite_false if_true if_false stpO_some opsO_nil opsO_cons stpD_some nthD_some drawO_nil drawO_cons decTrue decFalse callA natBeq decT decF B_size B_mk B_empty B_append B_extract decide_eq_true_eq Bool.not_eq_true' decide_eq_false_iff_not Bool.and_eq_true Bool.or_eq_true boundsA sliceA B_toList Bool.and_false Bool.false_and Bool.true_and backOf List.zipIdx_cons Option.getD_some Option.getD_none Nat.sub_self fillA rowsOf toRows List.flatten_cons List.flatten_nil appendA sliceRows lendSs capPtr opO_pick opO_move opO_assign opO_extract opO_nilCheck opO_unOp opO_binOp opO_convert opO_index opO_field opO_alloc opO_box opO_build opO_buildSlice opO_makeSlice opO_load opO_store opO_fieldAddr opO_indexAddr opO_slice opO_makeFunc opO_builtin opO_fn regK_some lopK_some lopK_ite map_get endA preK_some preA_cons preA_nil thenP_some pre1 preId preRow narRow narCell outOf dropOut setO renO toO toOs toRowsO nodupB isArrS nestT appendN narOuts O.flat Int.natCast_nonneg decide_true decide_false preR_some preD_some condK_true condK_false grdO_true grdO_false grdD_true grdD_false pickO_true pickO_false if_pos if_neg eqI_self eqI_t eqI_f true_and and_true and_self not_true_eq_false not_false_eq_true Bool.not_not Go.Call.operands closedB List.all_append List.filterMap_append Array.toList_append List.flatMap_append Bool.or_self List.getElem?_nil Bool.true_beq Bool.false_beq G17 I3 S3 C3 A3 B3 Try.underlying3 Z3 I9 S9 C9 A9 B9 Try.underlying9 Z9 I22 S22 C22 A22 B22 Try.underlying22 E22 Z22 K17_3 O17_3 R17 M17 G58 I94 S94 C94 A94 B94 Try.underlying94 Z94 I96 S96 C96 A96 B96 Try.underlying96 Z96 R58 M58 G38 I23 S23 C23 A23 B23 Try.underlying23 E23 Z23 I34 S34 C34 A34 B34 Try.underlying34 E34 Z34 K38_3 O38_3 H58 Y58 R38 M38 G59 I89 S89 C89 A89 B89 Try.underlying89 Z89 I97 S97 C97 A97 B97 Try.underlying97 Z97 R59 M59 G39 I26 S26 C26 A26 B26 Try.underlying26 E26 Z26 I37 S37 C37 A37 B37 Try.underlying37 E37 Z37 K39_3 O39_3 H59 Y59 R39 M39 G60 I92 S92 C92 A92 B92 Try.underlying92 Z92 I99 S99 C99 A99 B99 Try.underlying99 Z99 R60 M60 G40 I27 S27 C27 A27 B27 Try.underlying27 E27 Z27 I38 S38 C38 A38 B38 Try.underlying38 E38 Z38 K40_3 O40_3 H60 Y60 R40 M40 G18 I29 S29 C29 A29 B29 Try.underlying29 Z29 I40 S40 C40 A40 B40 Try.underlying40 Z40 H39 Y39 H40 Y40 R18 M18 G16 I25 S25 C25 A25 B25 Try.underlying25 Z25 I36 S36 C36 A36 B36 Try.underlying36 Z36 H17 Y17 H38 Y38 R16 M16 G41 I4 S4 C4 A4 B4 Try.underlying4 Z4 I70 S70 C70 A70 B70 Try.underlying70 Z70 I73 S73 C73 A73 B73 Try.underlying73 Z73 H18 Y18 R41 M41
attribute [local go_sem ↓] ite_dec popK_nil popK_seq popK_seqE popK_seqR popK_blk popK_blkR popK_blkE endF_normal endF_ret q17_ q17_0 q17_1 q17_10 q17_11 q17_110 q17_1100 q17_1101 q17_11010 q17_110100 q17_1101000 q17_11010000 q17_11010001 q17_110100010 q17_110100011 q17_1101001 q17_11010010 q17_110100100 q17_11010011 q17_111 q17_1110 q17_1111 q58_ q58_0 q58_1 q58_10 q58_11 q58_110 q58_111 q58_1110 q58_1111 q58_11110 q58_11111 q38_ q38_0 q38_1 q38_10 q38_11 q38_110 q38_1100 q38_1101 q38_11010 q38_110100 q38_1101000 q38_11010000 q38_11010001 q38_110100010 q38_110100011 q38_1101001 q38_11010010 q38_110100100 q38_11010011 q38_111 q38_1110 q38_1111 q59_ q59_0 q59_1 q59_10 q59_11 q59_110 q59_111 q59_1110 q59_1111 q59_11110 q59_11111 q39_ q39_0 q39_1 q39_10 q39_11 q39_110 q39_1100 q39_1101 q39_11010 q39_110100 q39_1101000 q39_11010000 q39_11010001 q39_110100010 q39_110100011 q39_1101001 q39_11010010 q39_110100100 q39_11010011 q39_111 q39_1110 q39_1111 q60_ q60_0 q60_1 q60_10 q60_11 q60_110 q60_111 q60_1110 q60_1111 q60_11110 q60_11111 q60_111110 q60_111111 q40_ q40_0 q40_1 q40_10 q40_11 q40_110 q40_1100 q40_1101 q40_11010 q40_110100 q40_1101000 q40_11010000 q40_11010001 q40_110100010 q40_110100011 q40_1101001 q40_11010010 q40_110100100 q40_11010011 q40_111 q40_1110 q40_1111 q18_ q18_0 q18_1 q18_10 q18_11 q18_110 q18_111 q18_1110 q18_1111 q18_11110 q18_11111 q18_111110 q18_111111 q16_ q16_0 q16_1 q16_10 q16_11 q16_110 q16_111 q16_1110 q16_1111 q16_11110 q16_11111 q16_111110 q16_111111 q16_1111110 q16_1111111 q16_11111110 q16_11111111 q41_ q41_0 q41_1 q41_10 q41_11 q41_110 q41_111 q41_1110 q41_1111 q41_11110 q41_11111 q41_111110 q41_111111 q41_1111110 q41_1111111 q41_11111110 q41_11111111 bin_add bin_sub bin_mul bin_lss bin_leq bin_gtr bin_geq un_not min_int max_int wrap64' wrap_u8 wrap_i32 wrap64_byte wrap8_byte wrap32_byte bin_eqB bin_neB bin_addB
def fil {α : Type} (rows : List α) (z : α) (i : Int) : List α := rows.take i.toNat ++ List.replicate (rows.length - i.toNat) z
theorem fil_get {α : Type} (xs : List α) (z : α) (i : Int) (h0 : 0 ≤ i) (h : i < xs.length) : (fil xs z i)[i.toNat]? = some z := fill_get xs z i.toNat (by omega)
theorem fil_set {α : Type} (xs : List α) (z x : α) (i : Int) (h0 : 0 ≤ i) (h : i < xs.length) (hx : xs[i.toNat]? = some x) : (fil xs z i).set i.toNat x = fil xs z (i + 1) := by
  obtain ⟨hl, rfl⟩ := List.getElem?_eq_some_iff.1 hx
  unfold fil
  rw [fill_set xs z i.toNat hl, show (i + 1).toNat = i.toNat + 1 by omega]
theorem fil_zero {α : Type} (xs : List α) (z : α) : fil xs z 0 = List.replicate xs.length z := by simp [fil]
theorem fil_end {α : Type} (xs : List α) (z : α) (i : Int) (h : i = xs.length) : fil xs z i = xs := by subst h; simp [fil]

theorem toStringS_loop (xs : List (List UInt8)) (hx : xs.length ≤ 1048576) : ∀ (m : Nat) (i : Int), 0 ≤ i → i + m = xs.length →
    loopC Try.prog T (fnL Try.prog T L0) 17 (cq g17 [0, 0, 1, 0, 1, 1]) ⟨[.one (.c (.d (.sl 1 (rS xs)))), J, J, .one (.c (.arr 0 0 xs.length)), .one (.c (.d (.v (.int .i64 (i))))), J, J, J, J, J, J, J, J, J, J, J, J, J, J, J, J, J], hpOf [some (.arr 1 (fil (rS xs) [.v (.string (B ([])))] i))], 1, 0⟩ = some (.exit 0, ⟨[J, J, J, .one (.c (.arr 0 0 xs.length)), J, J, J, J, J, J, J, J, J, J, J, J, J, J, J, J, J, J], hpOf [some (.arr 1 (rS xs))], 1, 0⟩)
  | 0, i, h0, hm => by
    rw [fil_end (rS xs) _ i (by rw [rS_len]; omega)]
    have o := o17_110100; simp only [OE, opsR, cqR, subR, chi, Try.f17] at o
    rw [loopC_round]
    (try simp (maxSteps := 4000000) (disch := first | assumption | omega) only [go_sem, *, rS_len, o, ↓bin_eqI, ↓bin_neI, Nat.reduceAdd, Nat.reduceSub, Nat.reduceMul, Nat.reduceBEq, Nat.reduceLeDiff, Nat.reduceLT, Nat.reduceDiv, Nat.reduceMod]); repeat' ((first | with_reducible first | refine caK (fun hb => ?_) fun hb => ?_ | refine caG (fun hb => ?_) fun hb => ?_ | refine caP (fun hb => ?_) fun hb => ?_ | refine caH (fun hb => ?_) fun hb => ?_ | refine caQ (fun hb => ?_) fun hb => ?_ | refine ite_cases (fun hb => ?_) fun hb => ?_ | rw [drwK_ok rfl]) <;> try simp (maxSteps := 4000000) (disch := first | assumption | omega) only [go_sem, *, rS_len, o, ↓bin_eqI, ↓bin_neI, Nat.reduceAdd, Nat.reduceSub, Nat.reduceMul, Nat.reduceBEq, Nat.reduceLeDiff, Nat.reduceLT, Nat.reduceDiv, Nat.reduceMod])
  | m + 1, i, h0, hm => by
    have hil : i.toNat < xs.length := by omega
    have ih := toStringS_loop xs hx m (i + 1) (by omega) (by omega)
    have hg := rS_get xs i.toNat hil
    have f1 := fil_get (rS xs) [.v (.string (B ([])))] i h0 (by rw [rS_len]; omega)
    have f2 := fil_set (rS xs) [.v (.string (B ([])))] _ i h0 (by rw [rS_len]; omega) hg
    generalize xs[i.toNat] = x at hg f2
    rw [← ih]
    clear ih
    have o := o17_110100; simp only [OE, opsR, cqR, subR, chi, Try.f17] at o
    rw [loopC_round]
    (try simp (maxSteps := 4000000) (disch := first | assumption | omega) only [go_sem, *, rS_len, hg, f1, f2, o, ↓bin_eqI, ↓bin_neI, Nat.reduceAdd, Nat.reduceSub, Nat.reduceMul, Nat.reduceBEq, Nat.reduceLeDiff, Nat.reduceLT, Nat.reduceDiv, Nat.reduceMod]); repeat' ((first | with_reducible first | refine caK (fun hb => ?_) fun hb => ?_ | refine caG (fun hb => ?_) fun hb => ?_ | refine caP (fun hb => ?_) fun hb => ?_ | refine caH (fun hb => ?_) fun hb => ?_ | refine caQ (fun hb => ?_) fun hb => ?_ | refine ite_cases (fun hb => ?_) fun hb => ?_ | rw [drwK_ok rfl]) <;> try simp (maxSteps := 4000000) (disch := first | assumption | omega) only [go_sem, *, rS_len, hg, f1, f2, o, ↓bin_eqI, ↓bin_neI, Nat.reduceAdd, Nat.reduceSub, Nat.reduceMul, Nat.reduceBEq, Nat.reduceLeDiff, Nat.reduceLT, Nat.reduceDiv, Nat.reduceMod])
theorem toStringS_ok (xs : List (List UInt8)) (hx : xs.length ≤ 1048576) : fnL Try.prog T L0 17 [.c (.d (.sl 1 (rS xs)))] [] = some (.one (.c (.arr 0 0 xs.length)), [some (.arr 1 (rS xs))]) := by
  have Lp := toStringS_loop xs hx xs.length 0 (by omega) (by omega)
  rw [fil_zero, rS_len] at Lp
  have hroom : room = 70368744177664 := rfl
  refine fnL_run rfl N17 Try.func17 U17 ?_; have o := o17; simp only [OE, opsR, cqR, subR, chi, Try.f17] at o
  (try simp (maxSteps := 4000000) (disch := first | assumption | omega) only [go_sem, *, rS_len, Lp, o, ↓bin_eqI, ↓bin_neI, Nat.reduceAdd, Nat.reduceSub, Nat.reduceMul, Nat.reduceBEq, Nat.reduceLeDiff, Nat.reduceLT, Nat.reduceDiv, Nat.reduceMod]); repeat' ((first | with_reducible first | refine caK (fun hb => ?_) fun hb => ?_ | refine caG (fun hb => ?_) fun hb => ?_ | refine caP (fun hb => ?_) fun hb => ?_ | refine caH (fun hb => ?_) fun hb => ?_ | refine caQ (fun hb => ?_) fun hb => ?_ | refine ite_cases (fun hb => ?_) fun hb => ?_ | rw [drwK_ok rfl]) <;> try simp (maxSteps := 4000000) (disch := first | assumption | omega) only [go_sem, *, rS_len, Lp, o, ↓bin_eqI, ↓bin_neI, Nat.reduceAdd, Nat.reduceSub, Nat.reduceMul, Nat.reduceBEq, Nat.reduceLeDiff, Nat.reduceLT, Nat.reduceDiv, Nat.reduceMod])

theorem toInstr_ok (x : GInstr) : fnL Try.prog T L0 58 [.agg (x.enc.map .d)] [] = some (.one (.agg (x.enc.map .d)), []) := by
  refine fnL_run rfl N58 Try.func58 U58 ?_; have o := o58; simp only [OE, opsR, cqR, subR, chi, Try.f58] at o
  simp only [GInstr.enc, List.map_cons, List.map_nil]
  (try simp (maxSteps := 4000000) (disch := first | assumption | omega) only [go_sem, *, o, ↓bin_eqI, ↓bin_neI, Nat.reduceAdd, Nat.reduceSub, Nat.reduceMul, Nat.reduceBEq, Nat.reduceLeDiff, Nat.reduceLT, Nat.reduceDiv, Nat.reduceMod]); repeat' ((first | with_reducible first | refine caK (fun hb => ?_) fun hb => ?_ | refine caG (fun hb => ?_) fun hb => ?_ | refine caP (fun hb => ?_) fun hb => ?_ | refine caH (fun hb => ?_) fun hb => ?_ | refine caQ (fun hb => ?_) fun hb => ?_ | refine ite_cases (fun hb => ?_) fun hb => ?_ | rw [drwK_ok rfl]) <;> try simp (maxSteps := 4000000) (disch := first | assumption | omega) only [go_sem, *, o, ↓bin_eqI, ↓bin_neI, Nat.reduceAdd, Nat.reduceSub, Nat.reduceMul, Nat.reduceBEq, Nat.reduceLeDiff, Nat.reduceLT, Nat.reduceDiv, Nat.reduceMod])

theorem toInstrS_loop (xs : List (GInstr)) (hx : xs.length ≤ 1048576) : ∀ (m : Nat) (i : Int), 0 ≤ i → i + m = xs.length →
    loopC Try.prog T (fnL Try.prog T L0) 38 (cq g38 [0, 0, 1, 0, 1, 1]) ⟨[.one (.c (.d (.sl 2 (rIn xs)))), J, J, .one (.c (.arr 0 0 xs.length)), .one (.c (.d (.v (.int .i64 (i))))), J, J, J, J, J, J, J, J, J, J, J, J, J, J, J, J, J, J], hpOf [some (.arr 2 (fil (rIn xs) [.v (.int .i64 (0)), .v (.int .i64 (0))] i))], 1, 0⟩ = some (.exit 0, ⟨[J, J, J, .one (.c (.arr 0 0 xs.length)), J, J, J, J, J, J, J, J, J, J, J, J, J, J, J, J, J, J, J], hpOf [some (.arr 2 (rIn xs))], 1, 0⟩)
  | 0, i, h0, hm => by
    rw [fil_end (rIn xs) _ i (by rw [rIn_len]; omega)]
    have o := o38_110100; simp only [OE, opsR, cqR, subR, chi, Try.f38] at o
    rw [loopC_round]
    (try simp (maxSteps := 4000000) (disch := first | assumption | omega) only [go_sem, *, rIn_len, o, ↓bin_eqI, ↓bin_neI, Nat.reduceAdd, Nat.reduceSub, Nat.reduceMul, Nat.reduceBEq, Nat.reduceLeDiff, Nat.reduceLT, Nat.reduceDiv, Nat.reduceMod]); repeat' ((first | with_reducible first | refine caK (fun hb => ?_) fun hb => ?_ | refine caG (fun hb => ?_) fun hb => ?_ | refine caP (fun hb => ?_) fun hb => ?_ | refine caH (fun hb => ?_) fun hb => ?_ | refine caQ (fun hb => ?_) fun hb => ?_ | refine ite_cases (fun hb => ?_) fun hb => ?_ | rw [drwK_ok rfl]) <;> try simp (maxSteps := 4000000) (disch := first | assumption | omega) only [go_sem, *, rIn_len, o, ↓bin_eqI, ↓bin_neI, Nat.reduceAdd, Nat.reduceSub, Nat.reduceMul, Nat.reduceBEq, Nat.reduceLeDiff, Nat.reduceLT, Nat.reduceDiv, Nat.reduceMod])
  | m + 1, i, h0, hm => by
    have hil : i.toNat < xs.length := by omega
    have ih := toInstrS_loop xs hx m (i + 1) (by omega) (by omega)
    have hg := rIn_get xs i.toNat hil
    have f1 := fil_get (rIn xs) [.v (.int .i64 (0)), .v (.int .i64 (0))] i h0 (by rw [rIn_len]; omega)
    have f2 := fil_set (rIn xs) [.v (.int .i64 (0)), .v (.int .i64 (0))] _ i h0 (by rw [rIn_len]; omega) hg
    have h3 := toInstr_ok xs[i.toNat]
    generalize xs[i.toNat] = x at hg f2 h3
    simp only [GInstr.enc, List.map_cons, List.map_nil] at hg f2 h3
    rw [← ih]
    clear ih
    have o := o38_110100; simp only [OE, opsR, cqR, subR, chi, Try.f38] at o
    rw [loopC_round]
    (try simp (maxSteps := 4000000) (disch := first | assumption | omega) only [go_sem, *, rIn_len, hg, f1, f2, h3, o, ↓bin_eqI, ↓bin_neI, Nat.reduceAdd, Nat.reduceSub, Nat.reduceMul, Nat.reduceBEq, Nat.reduceLeDiff, Nat.reduceLT, Nat.reduceDiv, Nat.reduceMod]); repeat' ((first | with_reducible first | refine caK (fun hb => ?_) fun hb => ?_ | refine caG (fun hb => ?_) fun hb => ?_ | refine caP (fun hb => ?_) fun hb => ?_ | refine caH (fun hb => ?_) fun hb => ?_ | refine caQ (fun hb => ?_) fun hb => ?_ | refine ite_cases (fun hb => ?_) fun hb => ?_ | rw [drwK_ok rfl]) <;> try simp (maxSteps := 4000000) (disch := first | assumption | omega) only [go_sem, *, rIn_len, hg, f1, f2, h3, o, ↓bin_eqI, ↓bin_neI, Nat.reduceAdd, Nat.reduceSub, Nat.reduceMul, Nat.reduceBEq, Nat.reduceLeDiff, Nat.reduceLT, Nat.reduceDiv, Nat.reduceMod])
theorem toInstrS_ok (xs : List (GInstr)) (hx : xs.length ≤ 1048576) : fnL Try.prog T L0 38 [.c (.d (.sl 2 (rIn xs)))] [] = some (.one (.c (.arr 0 0 xs.length)), [some (.arr 2 (rIn xs))]) := by
  have Lp := toInstrS_loop xs hx xs.length 0 (by omega) (by omega)
  rw [fil_zero, rIn_len] at Lp
  have hroom : room = 70368744177664 := rfl
  refine fnL_run rfl N38 Try.func38 U38 ?_; have o := o38; simp only [OE, opsR, cqR, subR, chi, Try.f38] at o
  (try simp (maxSteps := 4000000) (disch := first | assumption | omega) only [go_sem, *, rIn_len, Lp, o, ↓bin_eqI, ↓bin_neI, Nat.reduceAdd, Nat.reduceSub, Nat.reduceMul, Nat.reduceBEq, Nat.reduceLeDiff, Nat.reduceLT, Nat.reduceDiv, Nat.reduceMod]); repeat' ((first | with_reducible first | refine caK (fun hb => ?_) fun hb => ?_ | refine caG (fun hb => ?_) fun hb => ?_ | refine caP (fun hb => ?_) fun hb => ?_ | refine caH (fun hb => ?_) fun hb => ?_ | refine caQ (fun hb => ?_) fun hb => ?_ | refine ite_cases (fun hb => ?_) fun hb => ?_ | rw [drwK_ok rfl]) <;> try simp (maxSteps := 4000000) (disch := first | assumption | omega) only [go_sem, *, rIn_len, Lp, o, ↓bin_eqI, ↓bin_neI, Nat.reduceAdd, Nat.reduceSub, Nat.reduceMul, Nat.reduceBEq, Nat.reduceLeDiff, Nat.reduceLT, Nat.reduceDiv, Nat.reduceMod])

theorem toVar_ok (x : GVar) : fnL Try.prog T L0 59 [.agg (x.enc.map .d)] [] = some (.one (.agg (x.enc.map .d)), []) := by
  refine fnL_run rfl N59 Try.func59 U59 ?_; have o := o59; simp only [OE, opsR, cqR, subR, chi, Try.f59] at o
  simp only [GVar.enc, List.map_cons, List.map_nil]
  (try simp (maxSteps := 4000000) (disch := first | assumption | omega) only [go_sem, *, o, ↓bin_eqI, ↓bin_neI, Nat.reduceAdd, Nat.reduceSub, Nat.reduceMul, Nat.reduceBEq, Nat.reduceLeDiff, Nat.reduceLT, Nat.reduceDiv, Nat.reduceMod]); repeat' ((first | with_reducible first | refine caK (fun hb => ?_) fun hb => ?_ | refine caG (fun hb => ?_) fun hb => ?_ | refine caP (fun hb => ?_) fun hb => ?_ | refine caH (fun hb => ?_) fun hb => ?_ | refine caQ (fun hb => ?_) fun hb => ?_ | refine ite_cases (fun hb => ?_) fun hb => ?_ | rw [drwK_ok rfl]) <;> try simp (maxSteps := 4000000) (disch := first | assumption | omega) only [go_sem, *, o, ↓bin_eqI, ↓bin_neI, Nat.reduceAdd, Nat.reduceSub, Nat.reduceMul, Nat.reduceBEq, Nat.reduceLeDiff, Nat.reduceLT, Nat.reduceDiv, Nat.reduceMod])

theorem toVarS_loop (xs : List (GVar)) (hx : xs.length ≤ 1048576) : ∀ (m : Nat) (i : Int), 0 ≤ i → i + m = xs.length →
    loopC Try.prog T (fnL Try.prog T L0) 39 (cq g39 [0, 0, 1, 0, 1, 1]) ⟨[.one (.c (.d (.sl 2 (rV xs)))), J, J, .one (.c (.arr 0 0 xs.length)), .one (.c (.d (.v (.int .i64 (i))))), J, J, J, J, J, J, J, J, J, J, J, J, J, J, J, J, J, J], hpOf [some (.arr 2 (fil (rV xs) [.v (.string (B ([]))), .v (.string (B ([])))] i))], 1, 0⟩ = some (.exit 0, ⟨[J, J, J, .one (.c (.arr 0 0 xs.length)), J, J, J, J, J, J, J, J, J, J, J, J, J, J, J, J, J, J, J], hpOf [some (.arr 2 (rV xs))], 1, 0⟩)
  | 0, i, h0, hm => by
    rw [fil_end (rV xs) _ i (by rw [rV_len]; omega)]
    have o := o39_110100; simp only [OE, opsR, cqR, subR, chi, Try.f39] at o
    rw [loopC_round]
    (try simp (maxSteps := 4000000) (disch := first | assumption | omega) only [go_sem, *, rV_len, o, ↓bin_eqI, ↓bin_neI, Nat.reduceAdd, Nat.reduceSub, Nat.reduceMul, Nat.reduceBEq, Nat.reduceLeDiff, Nat.reduceLT, Nat.reduceDiv, Nat.reduceMod]); repeat' ((first | with_reducible first | refine caK (fun hb => ?_) fun hb => ?_ | refine caG (fun hb => ?_) fun hb => ?_ | refine caP (fun hb => ?_) fun hb => ?_ | refine caH (fun hb => ?_) fun hb => ?_ | refine caQ (fun hb => ?_) fun hb => ?_ | refine ite_cases (fun hb => ?_) fun hb => ?_ | rw [drwK_ok rfl]) <;> try simp (maxSteps := 4000000) (disch := first | assumption | omega) only [go_sem, *, rV_len, o, ↓bin_eqI, ↓bin_neI, Nat.reduceAdd, Nat.reduceSub, Nat.reduceMul, Nat.reduceBEq, Nat.reduceLeDiff, Nat.reduceLT, Nat.reduceDiv, Nat.reduceMod])
  | m + 1, i, h0, hm => by
    have hil : i.toNat < xs.length := by omega
    have ih := toVarS_loop xs hx m (i + 1) (by omega) (by omega)
    have hg := rV_get xs i.toNat hil
    have f1 := fil_get (rV xs) [.v (.string (B ([]))), .v (.string (B ([])))] i h0 (by rw [rV_len]; omega)
    have f2 := fil_set (rV xs) [.v (.string (B ([]))), .v (.string (B ([])))] _ i h0 (by rw [rV_len]; omega) hg
    have h3 := toVar_ok xs[i.toNat]
    generalize xs[i.toNat] = x at hg f2 h3
    simp only [GVar.enc, List.map_cons, List.map_nil] at hg f2 h3
    rw [← ih]
    clear ih
    have o := o39_110100; simp only [OE, opsR, cqR, subR, chi, Try.f39] at o
    rw [loopC_round]
    (try simp (maxSteps := 4000000) (disch := first | assumption | omega) only [go_sem, *, rV_len, hg, f1, f2, h3, o, ↓bin_eqI, ↓bin_neI, Nat.reduceAdd, Nat.reduceSub, Nat.reduceMul, Nat.reduceBEq, Nat.reduceLeDiff, Nat.reduceLT, Nat.reduceDiv, Nat.reduceMod]); repeat' ((first | with_reducible first | refine caK (fun hb => ?_) fun hb => ?_ | refine caG (fun hb => ?_) fun hb => ?_ | refine caP (fun hb => ?_) fun hb => ?_ | refine caH (fun hb => ?_) fun hb => ?_ | refine caQ (fun hb => ?_) fun hb => ?_ | refine ite_cases (fun hb => ?_) fun hb => ?_ | rw [drwK_ok rfl]) <;> try simp (maxSteps := 4000000) (disch := first | assumption | omega) only [go_sem, *, rV_len, hg, f1, f2, h3, o, ↓bin_eqI, ↓bin_neI, Nat.reduceAdd, Nat.reduceSub, Nat.reduceMul, Nat.reduceBEq, Nat.reduceLeDiff, Nat.reduceLT, Nat.reduceDiv, Nat.reduceMod])
theorem toVarS_ok (xs : List (GVar)) (hx : xs.length ≤ 1048576) : fnL Try.prog T L0 39 [.c (.d (.sl 2 (rV xs)))] [] = some (.one (.c (.arr 0 0 xs.length)), [some (.arr 2 (rV xs))]) := by
  have Lp := toVarS_loop xs hx xs.length 0 (by omega) (by omega)
  rw [fil_zero, rV_len] at Lp
  have hroom : room = 70368744177664 := rfl
  refine fnL_run rfl N39 Try.func39 U39 ?_; have o := o39; simp only [OE, opsR, cqR, subR, chi, Try.f39] at o
  (try simp (maxSteps := 4000000) (disch := first | assumption | omega) only [go_sem, *, rV_len, Lp, o, ↓bin_eqI, ↓bin_neI, Nat.reduceAdd, Nat.reduceSub, Nat.reduceMul, Nat.reduceBEq, Nat.reduceLeDiff, Nat.reduceLT, Nat.reduceDiv, Nat.reduceMod]); repeat' ((first | with_reducible first | refine caK (fun hb => ?_) fun hb => ?_ | refine caG (fun hb => ?_) fun hb => ?_ | refine caP (fun hb => ?_) fun hb => ?_ | refine caH (fun hb => ?_) fun hb => ?_ | refine caQ (fun hb => ?_) fun hb => ?_ | refine ite_cases (fun hb => ?_) fun hb => ?_ | rw [drwK_ok rfl]) <;> try simp (maxSteps := 4000000) (disch := first | assumption | omega) only [go_sem, *, rV_len, Lp, o, ↓bin_eqI, ↓bin_neI, Nat.reduceAdd, Nat.reduceSub, Nat.reduceMul, Nat.reduceBEq, Nat.reduceLeDiff, Nat.reduceLT, Nat.reduceDiv, Nat.reduceMod])

theorem toCell_ok (x : GCell) : fnL Try.prog T L0 60 [.agg (x.enc.map .d)] [] = some (.one (.agg (x.enc.map .d)), []) := by
  refine fnL_run rfl N60 Try.func60 U60 ?_; have o := o60; simp only [OE, opsR, cqR, subR, chi, Try.f60] at o
  simp only [GCell.enc, List.map_cons, List.map_nil]
  (try simp (maxSteps := 4000000) (disch := first | assumption | omega) only [go_sem, *, o, ↓bin_eqI, ↓bin_neI, Nat.reduceAdd, Nat.reduceSub, Nat.reduceMul, Nat.reduceBEq, Nat.reduceLeDiff, Nat.reduceLT, Nat.reduceDiv, Nat.reduceMod]); repeat' ((first | with_reducible first | refine caK (fun hb => ?_) fun hb => ?_ | refine caG (fun hb => ?_) fun hb => ?_ | refine caP (fun hb => ?_) fun hb => ?_ | refine caH (fun hb => ?_) fun hb => ?_ | refine caQ (fun hb => ?_) fun hb => ?_ | refine ite_cases (fun hb => ?_) fun hb => ?_ | rw [drwK_ok rfl]) <;> try simp (maxSteps := 4000000) (disch := first | assumption | omega) only [go_sem, *, o, ↓bin_eqI, ↓bin_neI, Nat.reduceAdd, Nat.reduceSub, Nat.reduceMul, Nat.reduceBEq, Nat.reduceLeDiff, Nat.reduceLT, Nat.reduceDiv, Nat.reduceMod])

theorem toCellS_loop (xs : List (GCell)) (hx : xs.length ≤ 1048576) : ∀ (m : Nat) (i : Int), 0 ≤ i → i + m = xs.length →
    loopC Try.prog T (fnL Try.prog T L0) 40 (cq g40 [0, 0, 1, 0, 1, 1]) ⟨[.one (.c (.d (.sl 3 (rC xs)))), J, J, .one (.c (.arr 0 0 xs.length)), .one (.c (.d (.v (.int .i64 (i))))), J, J, J, J, J, J, J, J, J, J, J, J, J, J, J, J, J, J], hpOf [some (.arr 3 (fil (rC xs) [.v (.string (B ([]))), .v (.string (B ([]))), .v (.string (B ([])))] i))], 1, 0⟩ = some (.exit 0, ⟨[J, J, J, .one (.c (.arr 0 0 xs.length)), J, J, J, J, J, J, J, J, J, J, J, J, J, J, J, J, J, J, J], hpOf [some (.arr 3 (rC xs))], 1, 0⟩)
  | 0, i, h0, hm => by
    rw [fil_end (rC xs) _ i (by rw [rC_len]; omega)]
    have o := o40_110100; simp only [OE, opsR, cqR, subR, chi, Try.f40] at o
    rw [loopC_round]
    (try simp (maxSteps := 4000000) (disch := first | assumption | omega) only [go_sem, *, rC_len, o, ↓bin_eqI, ↓bin_neI, Nat.reduceAdd, Nat.reduceSub, Nat.reduceMul, Nat.reduceBEq, Nat.reduceLeDiff, Nat.reduceLT, Nat.reduceDiv, Nat.reduceMod]); repeat' ((first | with_reducible first | refine caK (fun hb => ?_) fun hb => ?_ | refine caG (fun hb => ?_) fun hb => ?_ | refine caP (fun hb => ?_) fun hb => ?_ | refine caH (fun hb => ?_) fun hb => ?_ | refine caQ (fun hb => ?_) fun hb => ?_ | refine ite_cases (fun hb => ?_) fun hb => ?_ | rw [drwK_ok rfl]) <;> try simp (maxSteps := 4000000) (disch := first | assumption | omega) only [go_sem, *, rC_len, o, ↓bin_eqI, ↓bin_neI, Nat.reduceAdd, Nat.reduceSub, Nat.reduceMul, Nat.reduceBEq, Nat.reduceLeDiff, Nat.reduceLT, Nat.reduceDiv, Nat.reduceMod])
  | m + 1, i, h0, hm => by
    have hil : i.toNat < xs.length := by omega
    have ih := toCellS_loop xs hx m (i + 1) (by omega) (by omega)
    have hg := rC_get xs i.toNat hil
    have f1 := fil_get (rC xs) [.v (.string (B ([]))), .v (.string (B ([]))), .v (.string (B ([])))] i h0 (by rw [rC_len]; omega)
    have f2 := fil_set (rC xs) [.v (.string (B ([]))), .v (.string (B ([]))), .v (.string (B ([])))] _ i h0 (by rw [rC_len]; omega) hg
    have h3 := toCell_ok xs[i.toNat]
    generalize xs[i.toNat] = x at hg f2 h3
    simp only [GCell.enc, List.map_cons, List.map_nil] at hg f2 h3
    rw [← ih]
    clear ih
    have o := o40_110100; simp only [OE, opsR, cqR, subR, chi, Try.f40] at o
    rw [loopC_round]
    (try simp (maxSteps := 4000000) (disch := first | assumption | omega) only [go_sem, *, rC_len, hg, f1, f2, h3, o, ↓bin_eqI, ↓bin_neI, Nat.reduceAdd, Nat.reduceSub, Nat.reduceMul, Nat.reduceBEq, Nat.reduceLeDiff, Nat.reduceLT, Nat.reduceDiv, Nat.reduceMod]); repeat' ((first | with_reducible first | refine caK (fun hb => ?_) fun hb => ?_ | refine caG (fun hb => ?_) fun hb => ?_ | refine caP (fun hb => ?_) fun hb => ?_ | refine caH (fun hb => ?_) fun hb => ?_ | refine caQ (fun hb => ?_) fun hb => ?_ | refine ite_cases (fun hb => ?_) fun hb => ?_ | rw [drwK_ok rfl]) <;> try simp (maxSteps := 4000000) (disch := first | assumption | omega) only [go_sem, *, rC_len, hg, f1, f2, h3, o, ↓bin_eqI, ↓bin_neI, Nat.reduceAdd, Nat.reduceSub, Nat.reduceMul, Nat.reduceBEq, Nat.reduceLeDiff, Nat.reduceLT, Nat.reduceDiv, Nat.reduceMod])
theorem toCellS_ok (xs : List (GCell)) (hx : xs.length ≤ 1048576) : fnL Try.prog T L0 40 [.c (.d (.sl 3 (rC xs)))] [] = some (.one (.c (.arr 0 0 xs.length)), [some (.arr 3 (rC xs))]) := by
  have Lp := toCellS_loop xs hx xs.length 0 (by omega) (by omega)
  rw [fil_zero, rC_len] at Lp
  have hroom : room = 70368744177664 := rfl
  refine fnL_run rfl N40 Try.func40 U40 ?_; have o := o40; simp only [OE, opsR, cqR, subR, chi, Try.f40] at o
  (try simp (maxSteps := 4000000) (disch := first | assumption | omega) only [go_sem, *, rC_len, Lp, o, ↓bin_eqI, ↓bin_neI, Nat.reduceAdd, Nat.reduceSub, Nat.reduceMul, Nat.reduceBEq, Nat.reduceLeDiff, Nat.reduceLT, Nat.reduceDiv, Nat.reduceMod]); repeat' ((first | with_reducible first | refine caK (fun hb => ?_) fun hb => ?_ | refine caG (fun hb => ?_) fun hb => ?_ | refine caP (fun hb => ?_) fun hb => ?_ | refine caH (fun hb => ?_) fun hb => ?_ | refine caQ (fun hb => ?_) fun hb => ?_ | refine ite_cases (fun hb => ?_) fun hb => ?_ | rw [drwK_ok rfl]) <;> try simp (maxSteps := 4000000) (disch := first | assumption | omega) only [go_sem, *, rC_len, Lp, o, ↓bin_eqI, ↓bin_neI, Nat.reduceAdd, Nat.reduceSub, Nat.reduceMul, Nat.reduceBEq, Nat.reduceLeDiff, Nat.reduceLT, Nat.reduceDiv, Nat.reduceMod])

def bStore (x : GStore) : Prop := x.Vars.length ≤ 1048576 ∧ x.Cells.length ≤ 1048576
def bCode (x : GCode) : Prop := x.Texts.length ≤ 1048576 ∧ x.List.length ≤ 1048576
def bTask (x : GTask) : Prop := x.Lines.length ≤ 1048576 ∧ bStore x.Delta
def bT (xs : List GTask) : Prop := xs.length ≤ 1048576 ∧ ∀ x ∈ xs, bTask x
def bCoord (x : GCoord) : Prop := bCode x.Code ∧ x.Names.length ≤ 1048576 ∧ bStore x.Begin ∧ bT x.Tasks ∧ bStore x.Final
abbrev aR (i n : Nat) : S := .arr i 0 n
abbrev eStore (i : Nat) (x : GStore) : List S := [aR i x.Vars.length, aR (i + 1) x.Cells.length, .d (.v (.string (B (x.Out))))]
abbrev bkStore (x : GStore) : List (Option Blk) := [some (.arr 2 (rV x.Vars)), some (.arr 3 (rC x.Cells))]
abbrev eCode (i : Nat) (x : GCode) : List S := [aR i x.Texts.length, aR (i + 1) x.List.length, .d (.v (.int .i64 (x.Begin))), .d (.v (.int .i64 (x.Line))), .d (.v (.int .i64 (x.End)))]
abbrev bkCode (x : GCode) : List (Option Blk) := [some (.arr 1 (rS x.Texts)), some (.arr 2 (rIn x.List))]
theorem toStore_ok (x : GStore) (hx : bStore x) : fnL Try.prog T L0 18 [.agg (x.enc.map .d)] [] = some (.one (.agg [.arr 0 0 x.Vars.length, .arr 1 0 x.Cells.length, .d (.v (.string (B (x.Out))))]), [some (.arr 2 (rV x.Vars)), some (.arr 3 (rC x.Cells))]) := by
  have h1 := toVarS_ok x.Vars hx.1
  have h2 := toCellS_ok x.Cells hx.2
  refine fnL_run rfl N18 Try.func18 U18 ?_; have o := o18; simp only [OE, opsR, cqR, subR, chi, Try.f18] at o
  simp only [encStore, List.map_cons, List.map_nil]
  (try simp (maxSteps := 4000000) (disch := first | assumption | omega) only [go_sem, *, h1, h2, o, ↓bin_eqI, ↓bin_neI, Nat.reduceAdd, Nat.reduceSub, Nat.reduceMul, Nat.reduceBEq, Nat.reduceLeDiff, Nat.reduceLT, Nat.reduceDiv, Nat.reduceMod]); repeat' ((first | with_reducible first | refine caK (fun hb => ?_) fun hb => ?_ | refine caG (fun hb => ?_) fun hb => ?_ | refine caP (fun hb => ?_) fun hb => ?_ | refine caH (fun hb => ?_) fun hb => ?_ | refine caQ (fun hb => ?_) fun hb => ?_ | refine ite_cases (fun hb => ?_) fun hb => ?_ | rw [drwK_ok rfl]) <;> try simp (maxSteps := 4000000) (disch := first | assumption | omega) only [go_sem, *, h1, h2, o, ↓bin_eqI, ↓bin_neI, Nat.reduceAdd, Nat.reduceSub, Nat.reduceMul, Nat.reduceBEq, Nat.reduceLeDiff, Nat.reduceLT, Nat.reduceDiv, Nat.reduceMod])
theorem toCode_ok (x : GCode) (hx : bCode x) : fnL Try.prog T L0 16 [.agg (x.enc.map .d)] [] = some (.one (.agg [.arr 0 0 x.Texts.length, .arr 1 0 x.List.length, .d (.v (.int .i64 (x.Begin))), .d (.v (.int .i64 (x.Line))), .d (.v (.int .i64 (x.End)))]), [some (.arr 1 (rS x.Texts)), some (.arr 2 (rIn x.List))]) := by
  have h1 := toStringS_ok x.Texts hx.1
  have h2 := toInstrS_ok x.List hx.2
  refine fnL_run rfl N16 Try.func16 U16 ?_; have o := o16; simp only [OE, opsR, cqR, subR, chi, Try.f16] at o
  simp only [encCode, List.map_cons, List.map_nil]
  (try simp (maxSteps := 4000000) (disch := first | assumption | omega) only [go_sem, *, h1, h2, o, ↓bin_eqI, ↓bin_neI, Nat.reduceAdd, Nat.reduceSub, Nat.reduceMul, Nat.reduceBEq, Nat.reduceLeDiff, Nat.reduceLT, Nat.reduceDiv, Nat.reduceMod]); repeat' ((first | with_reducible first | refine caK (fun hb => ?_) fun hb => ?_ | refine caG (fun hb => ?_) fun hb => ?_ | refine caP (fun hb => ?_) fun hb => ?_ | refine caH (fun hb => ?_) fun hb => ?_ | refine caQ (fun hb => ?_) fun hb => ?_ | refine ite_cases (fun hb => ?_) fun hb => ?_ | rw [drwK_ok rfl]) <;> try simp (maxSteps := 4000000) (disch := first | assumption | omega) only [go_sem, *, h1, h2, o, ↓bin_eqI, ↓bin_neI, Nat.reduceAdd, Nat.reduceSub, Nat.reduceMul, Nat.reduceBEq, Nat.reduceLeDiff, Nat.reduceLT, Nat.reduceDiv, Nat.reduceMod])
theorem toTask_ok (x : GTask) (hx : bTask x) : fnL Try.prog T L0 41 [.agg (x.enc.map .d)] [] = some (.one (.agg [.arr 0 0 x.Lines.length, .d (.v (.int .i64 (x.Try))), .d (.v (.int .i64 (x.Until))), .d (.v (.bool (x.Done))), .arr 1 0 x.Delta.Vars.length, .arr 2 0 x.Delta.Cells.length, .d (.v (.string (B (x.Delta.Out))))]), [some (.arr 1 (rS x.Lines)), some (.arr 2 (rV x.Delta.Vars)), some (.arr 3 (rC x.Delta.Cells))]) := by
  have h1 := toStringS_ok x.Lines hx.1
  have h2 := toStore_ok x.Delta hx.2
  simp only [encStore, List.map_cons, List.map_nil] at h2
  refine fnL_run rfl N41 Try.func41 U41 ?_; have o := o41; simp only [OE, opsR, cqR, subR, chi, Try.f41] at o
  simp only [encTask, List.map_cons, List.map_nil]
  (try simp (maxSteps := 4000000) (disch := first | assumption | omega) only [go_sem, *, h1, h2, o, ↓bin_eqI, ↓bin_neI, Nat.reduceAdd, Nat.reduceSub, Nat.reduceMul, Nat.reduceBEq, Nat.reduceLeDiff, Nat.reduceLT, Nat.reduceDiv, Nat.reduceMod]); repeat' ((first | with_reducible first | refine caK (fun hb => ?_) fun hb => ?_ | refine caG (fun hb => ?_) fun hb => ?_ | refine caP (fun hb => ?_) fun hb => ?_ | refine caH (fun hb => ?_) fun hb => ?_ | refine caQ (fun hb => ?_) fun hb => ?_ | refine ite_cases (fun hb => ?_) fun hb => ?_ | rw [drwK_ok rfl]) <;> try simp (maxSteps := 4000000) (disch := first | assumption | omega) only [go_sem, *, h1, h2, o, ↓bin_eqI, ↓bin_neI, Nat.reduceAdd, Nat.reduceSub, Nat.reduceMul, Nat.reduceBEq, Nat.reduceLeDiff, Nat.reduceLT, Nat.reduceDiv, Nat.reduceMod])
end
end Go.Vsi
