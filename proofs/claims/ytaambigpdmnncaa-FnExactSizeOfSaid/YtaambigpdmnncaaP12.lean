/- What the functions of the program, of the reference and of the law do (a part of it). -/
import Derived.Test.YtaambigpdmnncaaP7
namespace Go.Vsi
open Go.Proofs
noncomputable section
set_option maxRecDepth 100000
set_option maxHeartbeats 4000000
set_option linter.unusedSimpArgs false
set_option linter.unusedVariables false
attribute [local go_sem] List.isEmpty_nil Bool.true_or Bool.and_true Bool.and_self Bool.false_eq_true Bool.not_true Bool.not_false List.set_cons_zero List.set_cons_succ frzSt wantedA evA constW ofVal plain oneOf noUp toVal cellVal putA startA List.length_cons List.length_nil List.map_cons List.map_nil List.replicate List.cons_append List.nil_append List.getElem?_cons_succ List.getElem?_cons_zero List.getElem?_toArray List.set upd Option.bind resA resOne giveA seenOf idsAt reach renH renW renV renS renB idsW idsV idsS frzW frzV frzS List.filter_nil List.range_zero List.flatMap_nil List.flatMap_cons List.append_nil List.range List.range.loop sliceLen intV List.length_map one partA ordOf canon junkBut List.elem_cons List.elem_nil Bool.false_or Bool.or_false Bool.or_true cond_true cond_false firstReg evL opTmps footA cut callOk List.all_nil List.all_cons Op.operands Array.toList List.filterMap_cons List.filterMap_nil lendCall ownCall lendVs lendV lendS plainW plainV plainS List.zipIdx_nil hpOf Array.toList_map idsB natBle beq_self_eq_true Int.toNat_natCast Option.map_some Option.map_none ix cellsV Nat.zero_add List.any_nil List.any_cons List.take_zero List.take_succ_cons List.take_nil List.drop_succ_cons List.drop_zero List.drop_nil toD toDs List.filter_cons Nat.zero_le Nat.le_refl frzH ite_true ite_false if_true if_false stpO_some opsO_nil opsO_cons stpD_some nthD_some drawO_nil drawO_cons decTrue decFalse callA natBeq decT decF B_size B_mk B_empty B_append B_extract decide_eq_true_eq Bool.not_eq_true' decide_eq_false_iff_not Bool.and_eq_true Bool.or_eq_true boundsA sliceA B_toList Bool.and_false Bool.false_and Bool.true_and backOf List.zipIdx_cons Option.getD_some Option.getD_none Nat.sub_self fillA rowsOf toRows List.flatten_cons List.flatten_nil appendA sliceRows lendSs capPtr opO_pick opO_move opO_assign opO_extract opO_nilCheck opO_unOp opO_binOp opO_convert opO_index opO_field opO_alloc opO_box opO_build opO_buildSlice opO_makeSlice opO_load opO_store opO_fieldAddr opO_indexAddr opO_slice opO_makeFunc opO_builtin opO_fn regK_some lopK_some lopK_ite map_get endA condK_true condK_false grdO_true grdO_false grdD_true grdD_false pickO_true pickO_false if_pos if_neg eqI_self eqI_t eqI_f true_and and_true and_self not_true_eq_false not_false_eq_true Bool.not_not Go.Call.operands closedB List.all_append List.filterMap_append Array.toList_append List.flatMap_append Bool.or_self List.getElem?_nil Bool.true_beq Bool.false_beq G69 I3 S3 C3 A3 B3 Try.underlying3 Z3 I4 S4 C4 A4 B4 Try.underlying4 Z4 I9 S9 C9 A9 B9 Try.underlying9 Z9 I47 S47 C47 A47 B47 Try.underlying47 E47 Z47 I71 S71 C71 A71 B71 Try.underlying71 E71 Z71 I89 S89 C89 A89 B89 Try.underlying89 Z89 I92 S92 C92 A92 B92 Try.underlying92 Z92 R69 M69 G68 I5 S5 C5 A5 B5 Try.underlying5 Z5 IX9 R68 M68
attribute [local go_sem ↓] ite_dec popK_nil popK_seq popK_seqE popK_seqR popK_blk popK_blkR popK_blkE endF_normal endF_ret q69_ q69_0 q69_1 q69_10 q69_11 q69_110 q69_1100 q69_1101 q69_11010 q69_11011 q69_111 q69_1110 q69_1111 q68_ q68_0 q68_1 q68_10 q68_11 bin_add bin_sub bin_mul bin_lss bin_leq bin_gtr bin_geq un_not min_int max_int wrap64' wrap_u8 wrap_i32 wrap64_byte wrap8_byte wrap32_byte bin_eqB bin_neB bin_addB LN9
/-! The reference's reader of patterns: the whole text, the place, whether it is bad, the pieces so far (as rows) -/
def hS (s : List UInt8) (n : Nat) (bad : Bool) : List (List D) → List (Option Blk)
  | [] => [some (.var [.d (.v (.string (B (s)))), .d (.v (.int .i64 ((n : Int)))), .d (.v (.bool (bad))), .d (.v (.slice none 0 0))])]
  | p :: ps => [some (.var [.d (.v (.string (B (s)))), .d (.v (.int .i64 ((n : Int)))), .d (.v (.bool (bad))), .arr 1 0 (ps.length + 1)]), some (.arr 3 (p :: ps))]
def hT (R0 : List (List D)) (s : List UInt8) (n : Nat) (bad : Bool) (R : List (List D)) : List (Option Blk) :=
  match R0 with
  | [] => [some (.var [.d (.v (.string (B (s)))), .d (.v (.int .i64 ((n : Int)))), .d (.v (.bool (bad))), .arr 1 0 R.length]), some (.arr 3 R)]
  | _ :: _ => [some (.var [.d (.v (.string (B (s)))), .d (.v (.int .i64 ((n : Int)))), .d (.v (.bool (bad))), .arr 2 0 R.length]), none, some (.arr 3 R)]
theorem sput_nil (op : Int) (t : List UInt8) (s : List UInt8) (n : Nat) (bad : Bool) (R : List (List D)) (hn : R.length ≤ 59) : fnL Try.prog T L0 69 [.c (.ptr 0 0 0), .agg [.d (.v (.int .i64 (op))), .d (.v (.string (B (t)))), .d (.v (.slice none 0 0))]] (hS s n bad R) = some (.one (.c (.d (.v (.int .i64 ((R.length : Int)))))), hT R s n bad (R ++ [[.v (.int .i64 (op)), .v (.string (B (t))), .v (.slice none 0 0)]])) := by
  have hroom : room = 70368744177664 := rfl
  cases R with
  | nil =>
    simp only [hS, hT, List.nil_append]
    refine fnL_run rfl N69 Try.func69 U69 ?_; have o := o69; simp only [OE, opsR, cqR, subR, chi, Try.f69] at o
    (try simp (maxSteps := 4000000) (disch := first | assumption | omega) only [go_sem, *, o, ↓bin_eqI, ↓bin_neI, Nat.reduceAdd, Nat.reduceSub, Nat.reduceMul, Nat.reduceBEq, Nat.reduceLeDiff, Nat.reduceLT, Nat.reduceDiv, Nat.reduceMod]); repeat' ((first | with_reducible first | refine caK (fun hb => ?_) fun hb => ?_ | refine caG (fun hb => ?_) fun hb => ?_ | refine caP (fun hb => ?_) fun hb => ?_ | refine caH (fun hb => ?_) fun hb => ?_ | refine caQ (fun hb => ?_) fun hb => ?_ | refine ite_cases (fun hb => ?_) fun hb => ?_ | rw [drwK_ok rfl]) <;> try simp (maxSteps := 4000000) (disch := first | assumption | omega) only [go_sem, *, o, ↓bin_eqI, ↓bin_neI, Nat.reduceAdd, Nat.reduceSub, Nat.reduceMul, Nat.reduceBEq, Nat.reduceLeDiff, Nat.reduceLT, Nat.reduceDiv, Nat.reduceMod])
    all_goals rfl
  | cons p ps =>
    have hps : ps.length ≤ 58 := by simp at hn; omega
    obtain ⟨R, hR⟩ : ∃ R, R = p :: ps := ⟨_, rfl⟩
    have hl : R.length = ps.length + 1 := by rw [hR]; rfl
    have ht : R.take (ps.length + 1) = R := List.take_of_length_le (by omega)
    simp only [hS, hT]
    rw [← hR]
    clear hR hn
    have hs : ((ps.length + 1 + 1 : Nat) : Int) - 1 = ((ps.length + 1 : Nat) : Int) := by omega
    refine fnL_run rfl N69 Try.func69 U69 ?_; have o := o69; simp only [OE, opsR, cqR, subR, chi, Try.f69] at o
    (try simp (maxSteps := 4000000) (disch := first | assumption | omega) only [go_sem, *, hl, ht, hs, List.length_append, o, ↓bin_eqI, ↓bin_neI, Nat.reduceAdd, Nat.reduceSub, Nat.reduceMul, Nat.reduceBEq, Nat.reduceLeDiff, Nat.reduceLT, Nat.reduceDiv, Nat.reduceMod]); repeat' ((first | with_reducible first | refine caK (fun hb => ?_) fun hb => ?_ | refine caG (fun hb => ?_) fun hb => ?_ | refine caP (fun hb => ?_) fun hb => ?_ | refine caH (fun hb => ?_) fun hb => ?_ | refine caQ (fun hb => ?_) fun hb => ?_ | refine ite_cases (fun hb => ?_) fun hb => ?_ | rw [drwK_ok rfl]) <;> try simp (maxSteps := 4000000) (disch := first | assumption | omega) only [go_sem, *, hl, ht, hs, List.length_append, o, ↓bin_eqI, ↓bin_neI, Nat.reduceAdd, Nat.reduceSub, Nat.reduceMul, Nat.reduceBEq, Nat.reduceLeDiff, Nat.reduceLT, Nat.reduceDiv, Nat.reduceMod])
theorem ixAt (s : List UInt8) (n : Nat) (h : n < s.length) : pure1 Try.prog (Instr.index 9 (.string (B s)) (.int .i64 (n : Int))) = some (.one (.c (.d (.v (.int .u8 (((s[n]'h).toNat : Int))))))) := by
  have := IX9 s .i64 (n : Int) ⟨by omega, by simpa using h⟩
  simpa using this
theorem sis_ok (c : UInt8) (s : List UInt8) (n : Nat) (hn : n ≤ s.length) (hs : s.length ≤ 24) (R : List (List D)) : fnL Try.prog T L0 68 [.c (.ptr 0 0 0), .c (.d (.v (.int .u8 ((c.toNat : Int)))))] (hS s n false R) = some (.one (.c (.d (.v (.bool (nx c (s.drop n)))))), hS s n false R) := by
  by_cases hl : n < s.length
  · have hi := ixAt s n hl
    rw [List.drop_eq_getElem_cons hl]
    simp only [nx]
    generalize s[n] = b at hi ⊢
    have hl2 : (n : Int) < (s.length : Int) := by omega
    cases R
    all_goals
      simp only [hS]
      refine fnL_run rfl N68 Try.func68 U68 ?_; have o := o68; simp only [OE, opsR, cqR, subR, chi, Try.f68] at o
      (try simp (maxSteps := 4000000) (disch := first | assumption | omega) only [go_sem, *, hi, hl2, o, ↓bin_eqI, ↓bin_neI, Nat.reduceAdd, Nat.reduceSub, Nat.reduceMul, Nat.reduceBEq, Nat.reduceLeDiff, Nat.reduceLT, Nat.reduceDiv, Nat.reduceMod]); repeat' ((first | with_reducible first | refine caK (fun hb => ?_) fun hb => ?_ | refine caG (fun hb => ?_) fun hb => ?_ | refine caP (fun hb => ?_) fun hb => ?_ | refine caH (fun hb => ?_) fun hb => ?_ | refine caQ (fun hb => ?_) fun hb => ?_ | refine ite_cases (fun hb => ?_) fun hb => ?_ | rw [drwK_ok rfl]) <;> try simp (maxSteps := 4000000) (disch := first | assumption | omega) only [go_sem, *, hi, hl2, o, ↓bin_eqI, ↓bin_neI, Nat.reduceAdd, Nat.reduceSub, Nat.reduceMul, Nat.reduceBEq, Nat.reduceLeDiff, Nat.reduceLT, Nat.reduceDiv, Nat.reduceMod])
      rfl
  · rw [List.drop_eq_nil_of_le (by omega)]
    simp only [nx]
    have hl2 : ¬ (n : Int) < (s.length : Int) := by omega
    cases R
    all_goals
      simp only [hS]
      refine fnL_run rfl N68 Try.func68 U68 ?_; have o := o68; simp only [OE, opsR, cqR, subR, chi, Try.f68] at o
      (try simp (maxSteps := 4000000) (disch := first | assumption | omega) only [go_sem, *, hl2, o, ↓bin_eqI, ↓bin_neI, Nat.reduceAdd, Nat.reduceSub, Nat.reduceMul, Nat.reduceBEq, Nat.reduceLeDiff, Nat.reduceLT, Nat.reduceDiv, Nat.reduceMod]); repeat' ((first | with_reducible first | refine caK (fun hb => ?_) fun hb => ?_ | refine caG (fun hb => ?_) fun hb => ?_ | refine caP (fun hb => ?_) fun hb => ?_ | refine caH (fun hb => ?_) fun hb => ?_ | refine caQ (fun hb => ?_) fun hb => ?_ | refine ite_cases (fun hb => ?_) fun hb => ?_ | rw [drwK_ok rfl]) <;> try simp (maxSteps := 4000000) (disch := first | assumption | omega) only [go_sem, *, hl2, o, ↓bin_eqI, ↓bin_neI, Nat.reduceAdd, Nat.reduceSub, Nat.reduceMul, Nat.reduceBEq, Nat.reduceLeDiff, Nat.reduceLT, Nat.reduceDiv, Nat.reduceMod])
theorem sput_kids (op : Int) (t : List UInt8) (ks : List Int) (hk : ks.length ≤ 4) (s : List UInt8) (i : Nat) (bad : Bool) (R : List (List D)) (n : Nat) (hn : R.length = n) (h1 : 1 ≤ n ∧ n ≤ 59) :
    fnL Try.prog T L0 69 [.c (.ptr 0 0 0), .agg [.d (.v (.int .i64 (op))), .d (.v (.string (B (t)))), .arr 2 0 ks.length]] [some (.var [.d (.v (.string (B (s)))), .d (.v (.int .i64 ((i : Int)))), .d (.v (.bool (bad))), .arr 1 0 n]), some (.arr 3 R), some (.arr 1 (rI ks))] =
      some (.one (.c (.d (.v (.int .i64 ((n : Int)))))), [some (.var [.d (.v (.string (B (s)))), .d (.v (.int .i64 ((i : Int)))), .d (.v (.bool (bad))), .arr 3 0 (n + 1)]), none, none, some (.arr 3 (R ++ [row op t ks]))]) := by
  have hroom : room = 70368744177664 := rfl
  have e : row op t ks = [.v (.int .i64 (op)), .v (.string (B (t))), .sl 1 (rI ks)] := rfl
  rw [e]
  have ht : R.take n = R := List.take_of_length_le (by omega)
  have hkt : (rI ks).take ks.length = rI ks := List.take_of_length_le (by simp [rI])
  have hs : ((n + 1 : Nat) : Int) - 1 = (n : Int) := by omega
  refine fnL_run rfl N69 Try.func69 U69 ?_; have o := o69; simp only [OE, opsR, cqR, subR, chi, Try.f69] at o
  (try simp (maxSteps := 4000000) (disch := first | assumption | omega) only [go_sem, *, ht, hkt, hs, o, ↓bin_eqI, ↓bin_neI, Nat.reduceAdd, Nat.reduceSub, Nat.reduceMul, Nat.reduceBEq, Nat.reduceLeDiff, Nat.reduceLT, Nat.reduceDiv, Nat.reduceMod]); repeat' ((first | with_reducible first | refine caK (fun hb => ?_) fun hb => ?_ | refine caG (fun hb => ?_) fun hb => ?_ | refine caP (fun hb => ?_) fun hb => ?_ | refine caH (fun hb => ?_) fun hb => ?_ | refine caQ (fun hb => ?_) fun hb => ?_ | refine ite_cases (fun hb => ?_) fun hb => ?_ | rw [drwK_ok rfl]) <;> try simp (maxSteps := 4000000) (disch := first | assumption | omega) only [go_sem, *, ht, hkt, hs, o, ↓bin_eqI, ↓bin_neI, Nat.reduceAdd, Nat.reduceSub, Nat.reduceMul, Nat.reduceBEq, Nat.reduceLeDiff, Nat.reduceLT, Nat.reduceDiv, Nat.reduceMod])
end
end Go.Vsi
