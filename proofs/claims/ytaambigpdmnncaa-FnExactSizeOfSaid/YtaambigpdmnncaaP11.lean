/- What the functions of the program, of the reference and of the law do (a part of it). -/
import Derived.Test.YtaambigpdmnncaaP10
import Derived.Test.YtaambigpdmnncaaP3
namespace Go.Vsi
open Go.Proofs
noncomputable section
set_option maxRecDepth 100000
set_option maxHeartbeats 4000000
set_option linter.unusedSimpArgs false
set_option linter.unusedVariables false
attribute [local go_sem] List.isEmpty_nil Bool.true_or Bool.and_true Bool.and_self Bool.false_eq_true Bool.not_true Bool.not_false List.set_cons_zero List.set_cons_succ frzSt wantedA evA constW ofVal plain oneOf noUp toVal cellVal putA startA List.length_cons List.length_nil List.map_cons List.map_nil List.replicate List.cons_append List.nil_append List.getElem?_cons_succ List.getElem?_cons_zero List.getElem?_toArray List.set upd Option.bind resA resOne giveA seenOf idsAt reach renH renW renV renS renB idsW idsV idsS frzW frzV frzS List.filter_nil List.range_zero List.flatMap_nil List.flatMap_cons List.append_nil List.range List.range.loop sliceLen intV List.length_map one partA ordOf canon junkBut List.elem_cons List.elem_nil Bool.false_or Bool.or_false Bool.or_true cond_true cond_false firstReg evL opTmps footA cut callOk List.all_nil List.all_cons Op.operands Array.toList List.filterMap_cons List.filterMap_nil lendCall ownCall lendVs lendV lendS plainW plainV plainS List.zipIdx_nil hpOf Array.toList_map idsB natBle beq_self_eq_true Int.toNat_natCast Option.map_some Option.map_none ix cellsV Nat.zero_add List.any_nil List.any_cons List.take_zero List.take_succ_cons List.take_nil List.drop_succ_cons List.drop_zero List.drop_nil toD toDs List.filter_cons Nat.zero_le Nat.le_refl frzH ite_true ite_false if_true if_false stpO_some opsO_nil opsO_cons stpD_some nthD_some drawO_nil drawO_cons decTrue decFalse callA natBeq decT decF B_size B_mk B_empty B_append B_extract decide_eq_true_eq Bool.not_eq_true' decide_eq_false_iff_not Bool.and_eq_true Bool.or_eq_true boundsA sliceA B_toList Bool.and_false Bool.false_and Bool.true_and backOf List.zipIdx_cons Option.getD_some Option.getD_none Nat.sub_self fillA rowsOf toRows List.flatten_cons List.flatten_nil appendA sliceRows lendSs capPtr opO_pick opO_move opO_assign opO_extract opO_nilCheck opO_unOp opO_binOp opO_convert opO_index opO_field opO_alloc opO_box opO_build opO_buildSlice opO_makeSlice opO_load opO_store opO_fieldAddr opO_indexAddr opO_slice opO_makeFunc opO_builtin opO_fn regK_some lopK_some lopK_ite map_get endA condK_true condK_false grdO_true grdO_false grdD_true grdD_false pickO_true pickO_false if_pos if_neg eqI_self eqI_t eqI_f true_and and_true and_self not_true_eq_false not_false_eq_true Bool.not_not Go.Call.operands closedB List.all_append List.filterMap_append Array.toList_append List.flatMap_append Bool.or_self List.getElem?_nil Bool.true_beq Bool.false_beq G62 I3 S3 C3 A3 B3 Try.underlying3 Z3 I9 S9 C9 A9 B9 Try.underlying9 Z9 I47 S47 C47 A47 B47 Try.underlying47 E47 Z47 I92 S92 C92 A92 B92 Try.underlying92 Z92 H26 Y26 H27 Y27 R62 M62 G53 I71 S71 C71 A71 B71 Try.underlying71 E71 Z71 I73 S73 C73 A73 B73 Try.underlying73 Z73 K53_2 O53_2 H62 Y62 R53 M53 G40 I4 S4 C4 A4 B4 Try.underlying4 Z4 I80 S80 C80 A80 B80 Try.underlying80 Z80 I82 S82 C82 A82 B82 Try.underlying82 Z82 H52 Y52 H53 Y53 R40 M40
attribute [local go_sem ↓] ite_dec popK_nil popK_seq popK_seqE popK_seqR popK_blk popK_blkR popK_blkE endF_normal endF_ret q62_ q62_0 q62_1 q62_10 q62_11 q62_110 q62_1100 q62_1101 q62_11010 q62_110100 q62_1101000 q62_1101001 q62_11010010 q62_11010011 q62_110101 q62_1101010 q62_1101011 q62_11010110 q62_110101100 q62_110101101 q62_1101011010 q62_1101011011 q62_11010110110 q62_11010110111 q62_110101101110 q62_110101101111 q62_11010111 q62_110101110 q62_110101111 q62_111 q62_1110 q62_1111 q62_11110 q62_111100 q62_111101 q62_1111010 q62_11110100 q62_11110101 q62_111101010 q62_111101011 q62_1111010110 q62_11110101100 q62_11110101101 q62_111101011010 q62_111101011011 q62_1111010111 q62_11110101110 q62_11110101111 q62_11111 q62_111110 q62_111111 q53_ q53_0 q53_1 q53_10 q53_100 q53_101 q53_1010 q53_10100 q53_101000 q53_101001 q53_1010010 q53_10100100 q53_10100101 q53_1010011 q53_10100110 q53_101001100 q53_1010011000 q53_1010011001 q53_10100110010 q53_10100110011 q53_101001100110 q53_1010011001100 q53_1010011001101 q53_101001100111 q53_10100111 q53_11 q53_110 q53_111 q40_ q40_0 q40_1 q40_10 q40_100 q40_101 q40_1010 q40_10100 q40_10101 q40_1011 q40_11 q40_110 q40_111 q40_1110 q40_1111 q40_11110 q40_111100 q40_111101 q40_1111010 q40_11110100 q40_11110101 q40_1111011 q40_11111 q40_111110 q40_111111 bin_add bin_sub bin_mul bin_lss bin_leq bin_gtr bin_geq un_not min_int max_int wrap64' wrap_u8 wrap_i32 wrap64_byte wrap8_byte wrap32_byte bin_eqB bin_neB bin_addB IX9 LN9
theorem pieceOk_ok (op : Int) (t : List UInt8) (ks : List Int) (n : Int) (h : pOK op t ks n = true) (hn : 0 ≤ n ∧ n ≤ maxLen) : fnL Try.prog T L0 62 [.agg ((row op t ks).map .d), .c (.d (.v (.int .i64 (n))))] [] = some (.one (.c (.d (.v (.bool (true))))), []) := by
  have : maxLen = 9223372036854775807 := rfl
  unfold pOK at h
  simp only [Bool.and_eq_true, decide_eq_true_eq] at h
  obtain ⟨⟨⟨h1, h2⟩, h3⟩, h4⟩ := h
  have hk : ks.length ≤ 2 := by rw [h3]; unfold kidsNum; split <;> (try split) <;> omega
  have hA := kidsAhead_ok ks n (by omega) hn
  rw [h4] at hA
  have hl : (rI ks).length = ks.length := by simp [rI]
  rw [h3] at hl
  clear h4 h3 hk
  have hop : op = 1 ∨ op = 2 ∨ op = 3 ∨ op = 4 ∨ op = 5 ∨ op = 6 ∨ op = 7 ∨ op = 8 ∨ op = 9 ∨ op = 10 ∨ op = 11 ∨ op = 12 := by omega
  clear h1
  have e : kidsNum 1 = 0 ∧ kidsNum 2 = 0 ∧ kidsNum 3 = 0 ∧ kidsNum 4 = 0 ∧ kidsNum 5 = 2 ∧ kidsNum 6 = 2 ∧ kidsNum 7 = 1 ∧ kidsNum 8 = 1 ∧ kidsNum 9 = 1 ∧ kidsNum 10 = 0 ∧ kidsNum 11 = 0 ∧ kidsNum 12 = 0 := ⟨rfl, rfl, rfl, rfl, rfl, rfl, rfl, rfl, rfl, rfl, rfl, rfl⟩
  rcases hop with rfl | rfl | rfl | rfl | rfl | rfl | rfl | rfl | rfl | rfl | rfl | rfl
  all_goals
    simp [textFit] at h2
    simp only [e] at hl
    try subst h2
    clear e
    refine fnL_run rfl N62 Try.func62 U62 ?_; have o := o62; simp only [OE, opsR, cqR, subR, chi, Try.f62] at o
    (try simp (maxSteps := 4000000) (disch := first | assumption | omega) only [go_sem, *, row, within_ok, hA, hl, o, ↓bin_eqI, ↓bin_neI, Nat.reduceAdd, Nat.reduceSub, Nat.reduceMul, Nat.reduceBEq, Nat.reduceLeDiff, Nat.reduceLT, Nat.reduceDiv, Nat.reduceMod]); repeat' ((first | with_reducible first | refine caK (fun hb => ?_) fun hb => ?_ | refine caG (fun hb => ?_) fun hb => ?_ | refine caP (fun hb => ?_) fun hb => ?_ | refine caH (fun hb => ?_) fun hb => ?_ | refine caQ (fun hb => ?_) fun hb => ?_ | refine ite_cases (fun hb => ?_) fun hb => ?_ | rw [drwK_ok rfl]) <;> try simp (maxSteps := 4000000) (disch := first | assumption | omega) only [go_sem, *, row, within_ok, hA, hl, o, ↓bin_eqI, ↓bin_neI, Nat.reduceAdd, Nat.reduceSub, Nat.reduceMul, Nat.reduceBEq, Nat.reduceLeDiff, Nat.reduceLT, Nat.reduceDiv, Nat.reduceMod])
theorem patternOk_loop (R : List (List D)) (h : RowsOK R) (hl : R.length ≤ 60) : ∀ (m : Nat) (i : Int), 0 ≤ i → i + m = R.length →
    loopC Try.prog T (fnL Try.prog T L0) 53 (cq g53 [0, 0, 1, 0, 1]) ⟨[J, .one (.c (.ptr 1 0 0)), J, J, J, J, .one (.c (.arr 0 0 R.length)), .one (.c (.d (.v (.int .i64 ((R.length : Int)))))), .one (.c (.d (.v (.int .i64 (i))))), J, J, J, J, J, J, J, J, J, J, J, J, J], hpOf [some (.arr 3 R), some (.var [.arr 0 0 R.length])], 2, 1⟩ =
      some (.exit 0, ⟨[J, .one (.c (.ptr 1 0 0)), J, J, J, J, J, J, J, J, J, J, J, J, J, J, J, J, J, J, J, J], hpOf [some (.arr 3 R), some (.var [.arr 0 0 R.length])], 2, 1⟩)
  | 0, i, h0, hm => by
    clear h
    have o := o53_10100; simp only [OE, opsR, cqR, subR, chi, Try.f53] at o
    rw [loopC_round]
    (try simp (maxSteps := 4000000) (disch := first | assumption | omega) only [go_sem, *, o, ↓bin_eqI, ↓bin_neI, Nat.reduceAdd, Nat.reduceSub, Nat.reduceMul, Nat.reduceBEq, Nat.reduceLeDiff, Nat.reduceLT, Nat.reduceDiv, Nat.reduceMod]); repeat' ((first | with_reducible first | refine caK (fun hb => ?_) fun hb => ?_ | refine caG (fun hb => ?_) fun hb => ?_ | refine caP (fun hb => ?_) fun hb => ?_ | refine caH (fun hb => ?_) fun hb => ?_ | refine caQ (fun hb => ?_) fun hb => ?_ | refine ite_cases (fun hb => ?_) fun hb => ?_ | rw [drwK_ok rfl]) <;> try simp (maxSteps := 4000000) (disch := first | assumption | omega) only [go_sem, *, o, ↓bin_eqI, ↓bin_neI, Nat.reduceAdd, Nat.reduceSub, Nat.reduceMul, Nat.reduceBEq, Nat.reduceLeDiff, Nat.reduceLT, Nat.reduceDiv, Nat.reduceMod])
  | m + 1, i, h0, hm => by
    have : maxLen = 9223372036854775807 := rfl
    have ih := patternOk_loop R h hl m (i + 1) (by omega) (by omega)
    have hil : i.toNat < R.length := by omega
    have hg := List.getElem?_eq_getElem hil
    obtain ⟨op, t, ks, hr, hp⟩ := h i.toNat _ hg
    rw [hr] at hg
    rw [show ((i.toNat : Nat) : Int) = i by omega] at hp
    have hk := pieceOk_ok op t ks i hp ⟨h0, by omega⟩
    simp only [row, List.map_cons, List.map_nil] at hk hg
    clear h hr hp
    have o := o53_10100; simp only [OE, opsR, cqR, subR, chi, Try.f53] at o
    rw [loopC_round]
    (try simp (maxSteps := 4000000) (disch := first | assumption | omega) only [go_sem, *, hg, hk, o, ↓bin_eqI, ↓bin_neI, Nat.reduceAdd, Nat.reduceSub, Nat.reduceMul, Nat.reduceBEq, Nat.reduceLeDiff, Nat.reduceLT, Nat.reduceDiv, Nat.reduceMod]); repeat' ((first | with_reducible first | refine caK (fun hb => ?_) fun hb => ?_ | refine caG (fun hb => ?_) fun hb => ?_ | refine caP (fun hb => ?_) fun hb => ?_ | refine caH (fun hb => ?_) fun hb => ?_ | refine caQ (fun hb => ?_) fun hb => ?_ | refine ite_cases (fun hb => ?_) fun hb => ?_ | rw [drwK_ok rfl]) <;> try simp (maxSteps := 4000000) (disch := first | assumption | omega) only [go_sem, *, hg, hk, o, ↓bin_eqI, ↓bin_neI, Nat.reduceAdd, Nat.reduceSub, Nat.reduceMul, Nat.reduceBEq, Nat.reduceLeDiff, Nat.reduceLT, Nat.reduceDiv, Nat.reduceMod])
theorem patternOk_ok (R : List (List D)) (h : RowsOK R) (h1 : 1 ≤ R.length) (hl : R.length ≤ 60) : fnL Try.prog T L0 53 [.agg [.arr 0 0 R.length]] [some (.arr 3 R)] = some (.one (.c (.d (.v (.bool (true))))), [some (.arr 3 R)]) := by
  have L := patternOk_loop R h hl R.length 0 (by omega) (by omega)
  clear h
  refine fnL_run rfl N53 Try.func53 U53 ?_; have o := o53; simp only [OE, opsR, cqR, subR, chi, Try.f53] at o
  (try simp (maxSteps := 4000000) (disch := first | assumption | omega) only [go_sem, *, L, within_ok, o, ↓bin_eqI, ↓bin_neI, Nat.reduceAdd, Nat.reduceSub, Nat.reduceMul, Nat.reduceBEq, Nat.reduceLeDiff, Nat.reduceLT, Nat.reduceDiv, Nat.reduceMod]); repeat' ((first | with_reducible first | refine caK (fun hb => ?_) fun hb => ?_ | refine caG (fun hb => ?_) fun hb => ?_ | refine caP (fun hb => ?_) fun hb => ?_ | refine caH (fun hb => ?_) fun hb => ?_ | refine caQ (fun hb => ?_) fun hb => ?_ | refine ite_cases (fun hb => ?_) fun hb => ?_ | rw [drwK_ok rfl]) <;> try simp (maxSteps := 4000000) (disch := first | assumption | omega) only [go_sem, *, L, within_ok, o, ↓bin_eqI, ↓bin_neI, Nat.reduceAdd, Nat.reduceSub, Nat.reduceMul, Nat.reduceBEq, Nat.reduceLeDiff, Nat.reduceLT, Nat.reduceDiv, Nat.reduceMod])
/-- Is there a pattern? -/
def rdP (s : List UInt8) : Bool := decide (1 ≤ (s.length : Int) ∧ (s.length : Int) ≤ 24) && (match mAlt 150 s with | some r => r.isEmpty | none => false)
theorem rdP_le (s : List UInt8) (h : rdP s = true) : s.length ≤ 24 := by
  unfold rdP at h
  simp only [Bool.and_eq_true, decide_eq_true_eq] at h
  omega
theorem readPattern_ok : Reads 40 rdP := by
  intro s hs
  unfold rdP
  have : maxLen = 9223372036854775807 := rfl
  by_cases hlen : 1 ≤ (s.length : Int) ∧ (s.length : Int) ≤ 24
  · have hA := (all_of 150).1 s [] (by omega) (fun i r hr => by simp at hr) (by simp; omega) (by omega)
    simp only [decT hlen, Bool.true_and]
    cases hm : mAlt 150 s with
    | none =>
      rw [hm] at hA
      obtain ⟨w, bs, e, hbs⟩ := hA
      refine ⟨.v (.slice none 0 0), ?_⟩
      clear hm
      rcases hbs with ⟨l', rfl⟩ | ⟨l', R, z1, z2, rfl⟩
      all_goals
        simp only [hP, hQ] at e
        refine fnL_run rfl N40 Try.func40 U40 ?_; have o := o40; simp only [OE, opsR, cqR, subR, chi, Try.f40] at o
        (try simp (maxSteps := 4000000) (disch := first | assumption | omega) only [go_sem, *, e, within_ok, arr_all, Option.isSome_some, resOnes, o, ↓bin_eqI, ↓bin_neI, Nat.reduceAdd, Nat.reduceSub, Nat.reduceMul, Nat.reduceBEq, Nat.reduceLeDiff, Nat.reduceLT, Nat.reduceDiv, Nat.reduceMod]); repeat' ((first | with_reducible first | refine caK (fun hb => ?_) fun hb => ?_ | refine caG (fun hb => ?_) fun hb => ?_ | refine caP (fun hb => ?_) fun hb => ?_ | refine caH (fun hb => ?_) fun hb => ?_ | refine caQ (fun hb => ?_) fun hb => ?_ | refine ite_cases (fun hb => ?_) fun hb => ?_ | rw [drwK_ok rfl]) <;> try simp (maxSteps := 4000000) (disch := first | assumption | omega) only [go_sem, *, e, within_ok, arr_all, Option.isSome_some, resOnes, o, ↓bin_eqI, ↓bin_neI, Nat.reduceAdd, Nat.reduceSub, Nat.reduceMul, Nat.reduceBEq, Nat.reduceLeDiff, Nat.reduceLT, Nat.reduceDiv, Nat.reduceMod])
    | some r =>
      rw [hm] at hA
      obtain ⟨a, R, e, g1, g2, g3, g4⟩ := hA
      have hp := patternOk_ok R g1 (by omega) (by simp at g3; omega)
      clear hm g1 g3 g4
      cases r with
      | nil =>
        refine ⟨.sl 3 R, ?_⟩
        simp only [hP, hQ] at e
        have ht : R.take R.length = R := List.take_of_length_le (Nat.le_refl _)
        refine fnL_run rfl N40 Try.func40 U40 ?_; have o := o40; simp only [OE, opsR, cqR, subR, chi, Try.f40] at o
        (try simp (maxSteps := 4000000) (disch := first | assumption | omega) only [go_sem, *, e, hp, within_ok, arr_all, Option.isSome_some, resOnes, ht, List.isEmpty_nil, o, ↓bin_eqI, ↓bin_neI, Nat.reduceAdd, Nat.reduceSub, Nat.reduceMul, Nat.reduceBEq, Nat.reduceLeDiff, Nat.reduceLT, Nat.reduceDiv, Nat.reduceMod]); repeat' ((first | with_reducible first | refine caK (fun hb => ?_) fun hb => ?_ | refine caG (fun hb => ?_) fun hb => ?_ | refine caP (fun hb => ?_) fun hb => ?_ | refine caH (fun hb => ?_) fun hb => ?_ | refine caQ (fun hb => ?_) fun hb => ?_ | refine ite_cases (fun hb => ?_) fun hb => ?_ | rw [drwK_ok rfl]) <;> try simp (maxSteps := 4000000) (disch := first | assumption | omega) only [go_sem, *, e, hp, within_ok, arr_all, Option.isSome_some, resOnes, ht, List.isEmpty_nil, o, ↓bin_eqI, ↓bin_neI, Nat.reduceAdd, Nat.reduceSub, Nat.reduceMul, Nat.reduceBEq, Nat.reduceLeDiff, Nat.reduceLT, Nat.reduceDiv, Nat.reduceMod])
      | cons b r =>
        refine ⟨.v (.slice none 0 0), ?_⟩
        have e2 : ((b :: r) = []) = False := by simp
        simp only [hP, hQ] at e
        refine fnL_run rfl N40 Try.func40 U40 ?_; have o := o40; simp only [OE, opsR, cqR, subR, chi, Try.f40] at o
        (try simp (maxSteps := 4000000) (disch := first | assumption | omega) only [go_sem, *, e, hp, within_ok, arr_all, Option.isSome_some, resOnes, e2, List.isEmpty_cons, o, ↓bin_eqI, ↓bin_neI, Nat.reduceAdd, Nat.reduceSub, Nat.reduceMul, Nat.reduceBEq, Nat.reduceLeDiff, Nat.reduceLT, Nat.reduceDiv, Nat.reduceMod]); repeat' ((first | with_reducible first | refine caK (fun hb => ?_) fun hb => ?_ | refine caG (fun hb => ?_) fun hb => ?_ | refine caP (fun hb => ?_) fun hb => ?_ | refine caH (fun hb => ?_) fun hb => ?_ | refine caQ (fun hb => ?_) fun hb => ?_ | refine ite_cases (fun hb => ?_) fun hb => ?_ | rw [drwK_ok rfl]) <;> try simp (maxSteps := 4000000) (disch := first | assumption | omega) only [go_sem, *, e, hp, within_ok, arr_all, Option.isSome_some, resOnes, e2, List.isEmpty_cons, o, ↓bin_eqI, ↓bin_neI, Nat.reduceAdd, Nat.reduceSub, Nat.reduceMul, Nat.reduceBEq, Nat.reduceLeDiff, Nat.reduceLT, Nat.reduceDiv, Nat.reduceMod])
  · refine ⟨.v (.slice none 0 0), ?_⟩
    simp only [decF hlen, Bool.false_and]
    refine fnL_run rfl N40 Try.func40 U40 ?_; have o := o40; simp only [OE, opsR, cqR, subR, chi, Try.f40] at o
    (try simp (maxSteps := 4000000) (disch := first | assumption | omega) only [go_sem, *, within_ok, arr_all, Option.isSome_some, resOnes, o, ↓bin_eqI, ↓bin_neI, Nat.reduceAdd, Nat.reduceSub, Nat.reduceMul, Nat.reduceBEq, Nat.reduceLeDiff, Nat.reduceLT, Nat.reduceDiv, Nat.reduceMod]); repeat' ((first | with_reducible first | refine caK (fun hb => ?_) fun hb => ?_ | refine caG (fun hb => ?_) fun hb => ?_ | refine caP (fun hb => ?_) fun hb => ?_ | refine caH (fun hb => ?_) fun hb => ?_ | refine caQ (fun hb => ?_) fun hb => ?_ | refine ite_cases (fun hb => ?_) fun hb => ?_ | rw [drwK_ok rfl]) <;> try simp (maxSteps := 4000000) (disch := first | assumption | omega) only [go_sem, *, within_ok, arr_all, Option.isSome_some, resOnes, o, ↓bin_eqI, ↓bin_neI, Nat.reduceAdd, Nat.reduceSub, Nat.reduceMul, Nat.reduceBEq, Nat.reduceLeDiff, Nat.reduceLT, Nat.reduceDiv, Nat.reduceMod])
end
end Go.Vsi
