/- What the functions of the program, of the reference and of the law do (a part of it). -/
import Derived.Test.YtaambigpdmnncaaP12
namespace Go.Vsi
open Go.Proofs
noncomputable section
set_option maxRecDepth 100000
set_option maxHeartbeats 4000000
set_option linter.unusedSimpArgs false
set_option linter.unusedVariables false
attribute [local go_sem] List.isEmpty_nil Bool.true_or Bool.and_true Bool.and_self Bool.false_eq_true Bool.not_true Bool.not_false List.set_cons_zero List.set_cons_succ frzSt wantedA evA constW ofVal plain oneOf noUp toVal cellVal putA startA List.length_cons List.length_nil List.map_cons List.map_nil List.replicate List.cons_append List.nil_append List.getElem?_cons_succ List.getElem?_cons_zero List.getElem?_toArray List.set upd Option.bind resA resOne giveA seenOf idsAt reach renH renW renV renS renB idsW idsV idsS frzW frzV frzS List.filter_nil List.range_zero List.flatMap_nil List.flatMap_cons List.append_nil List.range List.range.loop sliceLen intV List.length_map one partA ordOf canon junkBut List.elem_cons List.elem_nil Bool.false_or Bool.or_false Bool.or_true cond_true cond_false firstReg evL opTmps footA cut callOk List.all_nil List.all_cons Op.operands Array.toList List.filterMap_cons List.filterMap_nil lendCall ownCall lendVs lendV lendS plainW plainV plainS List.zipIdx_nil hpOf Array.toList_map idsB natBle beq_self_eq_true Int.toNat_natCast Option.map_some Option.map_none ix cellsV Nat.zero_add List.any_nil List.any_cons List.take_zero List.take_succ_cons List.take_nil List.drop_succ_cons List.drop_zero List.drop_nil toD toDs List.filter_cons Nat.zero_le Nat.le_refl frzH ite_true ite_false if_true if_false stpO_some opsO_nil opsO_cons stpD_some nthD_some drawO_nil drawO_cons decTrue decFalse callA natBeq decT decF B_size B_mk B_empty B_append B_extract decide_eq_true_eq Bool.not_eq_true' decide_eq_false_iff_not Bool.and_eq_true Bool.or_eq_true boundsA sliceA B_toList Bool.and_false Bool.false_and Bool.true_and backOf List.zipIdx_cons Option.getD_some Option.getD_none Nat.sub_self fillA rowsOf toRows List.flatten_cons List.flatten_nil appendA sliceRows lendSs capPtr opO_pick opO_move opO_assign opO_extract opO_nilCheck opO_unOp opO_binOp opO_convert opO_index opO_field opO_alloc opO_box opO_build opO_buildSlice opO_makeSlice opO_load opO_store opO_fieldAddr opO_indexAddr opO_slice opO_makeFunc opO_builtin opO_fn regK_some lopK_some lopK_ite map_get endA condK_true condK_false grdO_true grdO_false grdD_true grdD_false pickO_true pickO_false if_pos if_neg eqI_self eqI_t eqI_f true_and and_true and_self not_true_eq_false not_false_eq_true Bool.not_not Go.Call.operands closedB List.all_append List.filterMap_append Array.toList_append List.flatMap_append Bool.or_self List.getElem?_nil Bool.true_beq Bool.false_beq G86 I3 S3 C3 A3 B3 Try.underlying3 Z3 I4 S4 C4 A4 B4 Try.underlying4 Z4 I5 S5 C5 A5 B5 Try.underlying5 Z5 I9 S9 C9 A9 B9 Try.underlying9 Z9 I47 S47 C47 A47 B47 Try.underlying47 E47 Z47 I71 S71 C71 A71 B71 Try.underlying71 E71 Z71 I87 S87 C87 A87 B87 Try.underlying87 Z87 I89 S89 C89 A89 B89 Try.underlying89 Z89 I92 S92 C92 A92 B92 Try.underlying92 Z92 K86_7 O86_7 H68 Y68 H69 Y69 IX9 R86 M86
attribute [local go_sem ↓] ite_dec popK_nil popK_seq popK_seqE popK_seqR popK_blk popK_blkR popK_blkE endF_normal endF_ret q86_ q86_0 q86_1 q86_10 q86_11 q86_110 q86_111 q86_1110 q86_11100 q86_11101 q86_111010 q86_1110100 q86_1110101 q86_111011 q86_1111 q86_11110 q86_11111 q86_111110 q86_1111100 q86_11111000 q86_111110000 q86_1111100000 q86_1111100001 q86_11111000010 q86_11111000011 q86_111110001 q86_1111100010 q86_111111 q86_1111110 q86_11111100 q86_11111101 q86_111111010 q86_1111110100 q86_1111110101 q86_11111101010 q86_11111101011 q86_111111011 q86_1111111 q86_11111110 q86_11111111 q86_111111110 q86_111111111 q86_1111111110 q86_1111111111 bin_add bin_sub bin_mul bin_lss bin_leq bin_gtr bin_geq un_not min_int max_int wrap64' wrap_u8 wrap_i32 wrap64_byte wrap8_byte wrap32_byte bin_eqB bin_neB bin_addB LN9
/-- How far the closing bracket is. -/
def cutLen : List UInt8 → Nat
  | [] => 0
  | b :: l => if (b.toNat : Int) = 93 then 0 else cutLen l + 1
theorem sset_loop0 (s : List UInt8) (hs : s.length ≤ 24) (op b0 : Int) : ∀ (m n : Nat), n + m = s.length →
    loopC Try.prog T (fnL Try.prog T L0) 86 (cq g86 [0, 0, 0, 1, 1, 1, 1, 1]) ⟨[.one (.c (.ptr 0 0 0)), J, J, .one (.c (.d (.v (.int .i64 (op))))), .one (.c (.d (.v (.int .i64 (b0))))), J, J, J, J, J, J, J, J, J, J, J, J, J, J, J, J, J, J, J, J, J, J, J, J, J, J, J, J, J, J, J, J, J, J, J, J, J, J, J, J, J, J, J, J, J, J, J, J, J, J, J, J, J, J, J, J, J, J, J, J, J, J, J, J, J, J, J, J, J, J, J, J, J, J, J, J, J, J, J, J, J, J, J, J, J, J, J, J, J, J, J, J, J, J, J, J, J], hpOf [some (.var [.d (.v (.string (B (s)))), .d (.v (.int .i64 ((n : Int)))), .d (.v (.bool (false))), .d (.v (.slice none 0 0))])], 1, 1⟩ = some (.exit 0, ⟨[.one (.c (.ptr 0 0 0)), J, J, .one (.c (.d (.v (.int .i64 (op))))), .one (.c (.d (.v (.int .i64 (b0))))), J, J, J, J, J, J, J, J, J, J, J, J, J, J, J, J, J, J, J, J, J, J, J, J, J, J, J, J, J, J, J, J, J, J, J, J, J, J, J, J, J, J, J, J, J, J, J, J, J, J, J, J, J, J, J, J, J, J, J, J, J, J, J, J, J, J, J, J, J, J, J, J, J, J, J, J, J, J, J, J, J, J, J, J, J, J, J, J, J, J, J, J, J, J, J, J, J], hpOf [some (.var [.d (.v (.string (B (s)))), .d (.v (.int .i64 (((n + cutLen (s.drop n) : Nat) : Int)))), .d (.v (.bool (false))), .d (.v (.slice none 0 0))])], 1, 1⟩)
  | 0, n, hm => by
    rw [List.drop_eq_nil_of_le (by omega), cutLen, Nat.add_zero]
    have hl2 : ¬ (n : Int) < (s.length : Int) := by omega
    have o := o86_11111000; simp only [OE, opsR, cqR, subR, chi, Try.f86] at o
    rw [loopC_round]
    (try simp (maxSteps := 4000000) (disch := first | assumption | omega) only [go_sem, *, hl2, o, ↓bin_eqI, ↓bin_neI, Nat.reduceAdd, Nat.reduceSub, Nat.reduceMul, Nat.reduceBEq, Nat.reduceLeDiff, Nat.reduceLT, Nat.reduceDiv, Nat.reduceMod]); repeat' ((first | with_reducible first | refine caK (fun hb => ?_) fun hb => ?_ | refine caG (fun hb => ?_) fun hb => ?_ | refine caP (fun hb => ?_) fun hb => ?_ | refine caH (fun hb => ?_) fun hb => ?_ | refine caQ (fun hb => ?_) fun hb => ?_ | refine ite_cases (fun hb => ?_) fun hb => ?_ | rw [drwK_ok rfl]) <;> try simp (maxSteps := 4000000) (disch := first | assumption | omega) only [go_sem, *, hl2, o, ↓bin_eqI, ↓bin_neI, Nat.reduceAdd, Nat.reduceSub, Nat.reduceMul, Nat.reduceBEq, Nat.reduceLeDiff, Nat.reduceLT, Nat.reduceDiv, Nat.reduceMod])
  | m + 1, n, hm => by
    have hl : n < s.length := by omega
    have hl2 : (n : Int) < (s.length : Int) := by omega
    have hi := ixAt s n hl
    rw [List.drop_eq_getElem_cons hl, cutLen]
    have ih := sset_loop0 s hs op b0 m (n + 1) (by omega)
    generalize s[n] = b at hi ⊢
    have ec : ((n + 1 : Nat) : Int) = (n : Int) + 1 := by omega
    by_cases hb : (b.toNat : Int) = 93
    · rw [if_pos hb, Nat.add_zero]
      clear ih
      rw [hb] at hi
      have o := o86_11111000; simp only [OE, opsR, cqR, subR, chi, Try.f86] at o
      rw [loopC_round]
      (try simp (maxSteps := 4000000) (disch := first | assumption | omega) only [go_sem, *, hi, hl2, o, ↓bin_eqI, ↓bin_neI, Nat.reduceAdd, Nat.reduceSub, Nat.reduceMul, Nat.reduceBEq, Nat.reduceLeDiff, Nat.reduceLT, Nat.reduceDiv, Nat.reduceMod]); repeat' ((first | with_reducible first | refine caK (fun hb => ?_) fun hb => ?_ | refine caG (fun hb => ?_) fun hb => ?_ | refine caP (fun hb => ?_) fun hb => ?_ | refine caH (fun hb => ?_) fun hb => ?_ | refine caQ (fun hb => ?_) fun hb => ?_ | refine ite_cases (fun hb => ?_) fun hb => ?_ | rw [drwK_ok rfl]) <;> try simp (maxSteps := 4000000) (disch := first | assumption | omega) only [go_sem, *, hi, hl2, o, ↓bin_eqI, ↓bin_neI, Nat.reduceAdd, Nat.reduceSub, Nat.reduceMul, Nat.reduceBEq, Nat.reduceLeDiff, Nat.reduceLT, Nat.reduceDiv, Nat.reduceMod])
    · rw [if_neg hb]
      have hq : eqI (b.toNat : Int) 93 = false := by simp [eqI, hb]
      rw [show n + (cutLen (s.drop (n + 1)) + 1) = n + 1 + cutLen (s.drop (n + 1)) by omega, ← ih, ec]
      clear ih hb
      have o := o86_11111000; simp only [OE, opsR, cqR, subR, chi, Try.f86] at o
      rw [loopC_round]
      (try simp (maxSteps := 4000000) (disch := first | assumption | omega) only [go_sem, *, hi, hl2, hq, o, ↓bin_eqI, ↓bin_neI, Nat.reduceAdd, Nat.reduceSub, Nat.reduceMul, Nat.reduceBEq, Nat.reduceLeDiff, Nat.reduceLT, Nat.reduceDiv, Nat.reduceMod]); repeat' ((first | with_reducible first | refine caK (fun hb => ?_) fun hb => ?_ | refine caG (fun hb => ?_) fun hb => ?_ | refine caP (fun hb => ?_) fun hb => ?_ | refine caH (fun hb => ?_) fun hb => ?_ | refine caQ (fun hb => ?_) fun hb => ?_ | refine ite_cases (fun hb => ?_) fun hb => ?_ | rw [drwK_ok rfl]) <;> try simp (maxSteps := 4000000) (disch := first | assumption | omega) only [go_sem, *, hi, hl2, hq, o, ↓bin_eqI, ↓bin_neI, Nat.reduceAdd, Nat.reduceSub, Nat.reduceMul, Nat.reduceBEq, Nat.reduceLeDiff, Nat.reduceLT, Nat.reduceDiv, Nat.reduceMod])
theorem sset_loop1 (s : List UInt8) (hs : s.length ≤ 24) (op b0 : Int) (r : Nat) (R : List (List D)) : ∀ (m n : Nat), n + m = s.length →
    loopC Try.prog T (fnL Try.prog T L0) 86 (cq g86 [0, 0, 0, 1, 1, 1, 1, 1]) ⟨[.one (.c (.ptr 0 0 0)), J, J, .one (.c (.d (.v (.int .i64 (op))))), .one (.c (.d (.v (.int .i64 (b0))))), J, J, J, J, J, J, J, J, J, J, J, J, J, J, J, J, J, J, J, J, J, J, J, J, J, J, J, J, J, J, J, J, J, J, J, J, J, J, J, J, J, J, J, J, J, J, J, J, J, J, J, J, J, J, J, J, J, J, J, J, J, J, J, J, J, J, J, J, J, J, J, J, J, J, J, J, J, J, J, J, J, J, J, J, J, J, J, J, J, J, J, J, J, J, J, J, J], hpOf [some (.var [.d (.v (.string (B (s)))), .d (.v (.int .i64 ((n : Int)))), .d (.v (.bool (false))), .arr 1 0 r]), some (.arr 3 R)], 2, 2⟩ = some (.exit 0, ⟨[.one (.c (.ptr 0 0 0)), J, J, .one (.c (.d (.v (.int .i64 (op))))), .one (.c (.d (.v (.int .i64 (b0))))), J, J, J, J, J, J, J, J, J, J, J, J, J, J, J, J, J, J, J, J, J, J, J, J, J, J, J, J, J, J, J, J, J, J, J, J, J, J, J, J, J, J, J, J, J, J, J, J, J, J, J, J, J, J, J, J, J, J, J, J, J, J, J, J, J, J, J, J, J, J, J, J, J, J, J, J, J, J, J, J, J, J, J, J, J, J, J, J, J, J, J, J, J, J, J, J, J], hpOf [some (.var [.d (.v (.string (B (s)))), .d (.v (.int .i64 (((n + cutLen (s.drop n) : Nat) : Int)))), .d (.v (.bool (false))), .arr 1 0 r]), some (.arr 3 R)], 2, 2⟩)
  | 0, n, hm => by
    rw [List.drop_eq_nil_of_le (by omega), cutLen, Nat.add_zero]
    have hl2 : ¬ (n : Int) < (s.length : Int) := by omega
    have o := o86_11111000; simp only [OE, opsR, cqR, subR, chi, Try.f86] at o
    rw [loopC_round]
    (try simp (maxSteps := 4000000) (disch := first | assumption | omega) only [go_sem, *, hl2, o, ↓bin_eqI, ↓bin_neI, Nat.reduceAdd, Nat.reduceSub, Nat.reduceMul, Nat.reduceBEq, Nat.reduceLeDiff, Nat.reduceLT, Nat.reduceDiv, Nat.reduceMod]); repeat' ((first | with_reducible first | refine caK (fun hb => ?_) fun hb => ?_ | refine caG (fun hb => ?_) fun hb => ?_ | refine caP (fun hb => ?_) fun hb => ?_ | refine caH (fun hb => ?_) fun hb => ?_ | refine caQ (fun hb => ?_) fun hb => ?_ | refine ite_cases (fun hb => ?_) fun hb => ?_ | rw [drwK_ok rfl]) <;> try simp (maxSteps := 4000000) (disch := first | assumption | omega) only [go_sem, *, hl2, o, ↓bin_eqI, ↓bin_neI, Nat.reduceAdd, Nat.reduceSub, Nat.reduceMul, Nat.reduceBEq, Nat.reduceLeDiff, Nat.reduceLT, Nat.reduceDiv, Nat.reduceMod])
  | m + 1, n, hm => by
    have hl : n < s.length := by omega
    have hl2 : (n : Int) < (s.length : Int) := by omega
    have hi := ixAt s n hl
    rw [List.drop_eq_getElem_cons hl, cutLen]
    have ih := sset_loop1 s hs op b0 r R m (n + 1) (by omega)
    generalize s[n] = b at hi ⊢
    have ec : ((n + 1 : Nat) : Int) = (n : Int) + 1 := by omega
    by_cases hb : (b.toNat : Int) = 93
    · rw [if_pos hb, Nat.add_zero]
      clear ih
      rw [hb] at hi
      have o := o86_11111000; simp only [OE, opsR, cqR, subR, chi, Try.f86] at o
      rw [loopC_round]
      (try simp (maxSteps := 4000000) (disch := first | assumption | omega) only [go_sem, *, hi, hl2, o, ↓bin_eqI, ↓bin_neI, Nat.reduceAdd, Nat.reduceSub, Nat.reduceMul, Nat.reduceBEq, Nat.reduceLeDiff, Nat.reduceLT, Nat.reduceDiv, Nat.reduceMod]); repeat' ((first | with_reducible first | refine caK (fun hb => ?_) fun hb => ?_ | refine caG (fun hb => ?_) fun hb => ?_ | refine caP (fun hb => ?_) fun hb => ?_ | refine caH (fun hb => ?_) fun hb => ?_ | refine caQ (fun hb => ?_) fun hb => ?_ | refine ite_cases (fun hb => ?_) fun hb => ?_ | rw [drwK_ok rfl]) <;> try simp (maxSteps := 4000000) (disch := first | assumption | omega) only [go_sem, *, hi, hl2, o, ↓bin_eqI, ↓bin_neI, Nat.reduceAdd, Nat.reduceSub, Nat.reduceMul, Nat.reduceBEq, Nat.reduceLeDiff, Nat.reduceLT, Nat.reduceDiv, Nat.reduceMod])
    · rw [if_neg hb]
      have hq : eqI (b.toNat : Int) 93 = false := by simp [eqI, hb]
      rw [show n + (cutLen (s.drop (n + 1)) + 1) = n + 1 + cutLen (s.drop (n + 1)) by omega, ← ih, ec]
      clear ih hb
      have o := o86_11111000; simp only [OE, opsR, cqR, subR, chi, Try.f86] at o
      rw [loopC_round]
      (try simp (maxSteps := 4000000) (disch := first | assumption | omega) only [go_sem, *, hi, hl2, hq, o, ↓bin_eqI, ↓bin_neI, Nat.reduceAdd, Nat.reduceSub, Nat.reduceMul, Nat.reduceBEq, Nat.reduceLeDiff, Nat.reduceLT, Nat.reduceDiv, Nat.reduceMod]); repeat' ((first | with_reducible first | refine caK (fun hb => ?_) fun hb => ?_ | refine caG (fun hb => ?_) fun hb => ?_ | refine caP (fun hb => ?_) fun hb => ?_ | refine caH (fun hb => ?_) fun hb => ?_ | refine caQ (fun hb => ?_) fun hb => ?_ | refine ite_cases (fun hb => ?_) fun hb => ?_ | rw [drwK_ok rfl]) <;> try simp (maxSteps := 4000000) (disch := first | assumption | omega) only [go_sem, *, hi, hl2, hq, o, ↓bin_eqI, ↓bin_neI, Nat.reduceAdd, Nat.reduceSub, Nat.reduceMul, Nat.reduceBEq, Nat.reduceLeDiff, Nat.reduceLT, Nat.reduceDiv, Nat.reduceMod])
end
end Go.Vsi
