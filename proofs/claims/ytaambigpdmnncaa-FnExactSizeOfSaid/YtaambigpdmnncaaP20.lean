/- What the functions of the program, of the reference and of the law do (a part of it). -/
import Derived.Test.YtaambigpdmnncaaP19
import Derived.Test.YtaambigpdmnncaaP11
namespace Go.Vsi
open Go.Proofs
noncomputable section
set_option maxRecDepth 100000
set_option maxHeartbeats 4000000
set_option linter.unusedSimpArgs false
set_option linter.unusedVariables false
attribute [local go_sem] List.isEmpty_nil Bool.true_or Bool.and_true Bool.and_self Bool.false_eq_true Bool.not_true Bool.not_false List.set_cons_zero List.set_cons_succ frzSt wantedA evA constW ofVal plain oneOf noUp toVal cellVal putA startA List.length_cons List.length_nil List.map_cons List.map_nil List.replicate List.cons_append List.nil_append List.getElem?_cons_succ List.getElem?_cons_zero List.getElem?_toArray List.set upd Option.bind resA resOne giveA seenOf idsAt reach renH renW renV renS renB idsW idsV idsS frzW frzV frzS List.filter_nil List.range_zero List.flatMap_nil List.flatMap_cons List.append_nil List.range List.range.loop sliceLen intV List.length_map one partA ordOf canon junkBut List.elem_cons List.elem_nil Bool.false_or Bool.or_false Bool.or_true cond_true cond_false firstReg evL opTmps footA cut callOk List.all_nil List.all_cons Op.operands Array.toList List.filterMap_cons List.filterMap_nil lendCall ownCall lendVs lendV lendS plainW plainV plainS List.zipIdx_nil hpOf Array.toList_map idsB natBle beq_self_eq_true Int.toNat_natCast Option.map_some Option.map_none ix cellsV Nat.zero_add List.any_nil List.any_cons List.take_zero List.take_succ_cons List.take_nil List.drop_succ_cons List.drop_zero List.drop_nil toD toDs List.filter_cons Nat.zero_le Nat.le_refl frzH ite_true ite_false if_true if_false stpO_some opsO_nil opsO_cons stpD_some nthD_some drawO_nil drawO_cons decTrue decFalse callA natBeq decT decF B_size B_mk B_empty B_append B_extract decide_eq_true_eq Bool.not_eq_true' decide_eq_false_iff_not Bool.and_eq_true Bool.or_eq_true boundsA sliceA B_toList Bool.and_false Bool.false_and Bool.true_and backOf List.zipIdx_cons Option.getD_some Option.getD_none Nat.sub_self fillA rowsOf toRows List.flatten_cons List.flatten_nil appendA sliceRows lendSs capPtr opO_pick opO_move opO_assign opO_extract opO_nilCheck opO_unOp opO_binOp opO_convert opO_index opO_field opO_alloc opO_box opO_build opO_buildSlice opO_makeSlice opO_load opO_store opO_fieldAddr opO_indexAddr opO_slice opO_makeFunc opO_builtin opO_fn regK_some lopK_some lopK_ite map_get endA condK_true condK_false grdO_true grdO_false grdD_true grdD_false pickO_true pickO_false if_pos if_neg eqI_self eqI_t eqI_f true_and and_true and_self not_true_eq_false not_false_eq_true Bool.not_not Go.Call.operands closedB List.all_append List.filterMap_append Array.toList_append List.flatMap_append Bool.or_self List.getElem?_nil Bool.true_beq Bool.false_beq G56 I3 S3 C3 A3 B3 Try.underlying3 Z3 I4 S4 C4 A4 B4 Try.underlying4 Z4 I5 S5 C5 A5 B5 Try.underlying5 Z5 I9 S9 C9 A9 B9 Try.underlying9 Z9 I47 S47 C47 A47 B47 Try.underlying47 E47 Z47 I71 S71 C71 A71 B71 Try.underlying71 E71 Z71 I87 S87 C87 A87 B87 Try.underlying87 Z87 I89 S89 C89 A89 B89 Try.underlying89 Z89 I92 S92 C92 A92 B92 Try.underlying92 Z92 K56_2 O56_2 H67 Y67 H68 Y68 H69 Y69 R56 M56 G48 I73 S73 C73 A73 B73 Try.underlying73 Z73 H22 Y22 H56 Y56 R48 M48
attribute [local go_sem ↓] ite_dec popK_nil popK_seq popK_seqE popK_seqR popK_blk popK_blkR popK_blkE endF_normal endF_ret q56_ q56_0 q56_1 q56_10 q56_11 q56_110 q56_1100 q56_11000 q56_110000 q56_1100000 q56_1100001 q56_11000010 q56_11000011 q56_110001 q56_1100010 q56_11000100 q56_11000101 q56_110001010 q56_110001011 q56_111 q56_1110 q56_1111 q48_ q48_0 q48_1 q48_10 q48_100 q48_101 q48_1010 q48_10100 q48_10101 q48_1011 q48_11 q48_110 q48_111 q48_1110 q48_1111 q48_11110 q48_111100 q48_111101 q48_1111010 q48_11110100 q48_11110101 q48_1111011 q48_11111 q48_111110 q48_111111 bin_add bin_sub bin_mul bin_lss bin_leq bin_gtr bin_geq un_not min_int max_int wrap64' wrap_u8 wrap_i32 wrap64_byte wrap8_byte wrap32_byte bin_eqB bin_neB bin_addB LN9
theorem salt_z0 (s : List UInt8) (hs : s.length ≤ 24) (n a : Nat) (R : List (List D)) (hn : n ≤ s.length) (hR : 1 ≤ R.length) (hx : nx 124 (s.drop n) = false) : loopC Try.prog T (fnL Try.prog T L0) 56 (cq g56 [0, 0, 0, 1, 1]) ⟨[.one (.c (.ptr 0 0 0)), J, J, .one (.c (.d (.v (.int .i64 ((a : Int)))))), J, J, J, J, J, J, J, J, J, J, J, J, J, J, J, J, J, J, J, J, J, J], hpOf [some (.var [.d (.v (.string (B (s)))), .d (.v (.int .i64 ((n : Int)))), .d (.v (.bool (false))), .arr 1 0 R.length]), some (.arr 3 R)], 2, 1⟩ = some (.exit 0, ⟨[J, J, J, .one (.c (.d (.v (.int .i64 ((a : Int)))))), J, J, J, J, J, J, J, J, J, J, J, J, J, J, J, J, J, J, J, J, J, J], hpOf [some (.var [.d (.v (.string (B (s)))), .d (.v (.int .i64 ((n : Int)))), .d (.v (.bool (false))), .arr 1 0 R.length]), some (.arr 3 R)], 2, 1⟩) := by
  have j1 := sis_ne 124 s n (by omega) hs R (by omega)
  simp only [show ((124 : UInt8).toNat : Int) = 124 from rfl] at j1
  rw [hx] at j1
  clear hx
  have o := o56_11000; simp only [OE, opsR, cqR, subR, chi, Try.f56] at o
  rw [loopC_round]
  (try simp (maxSteps := 4000000) (disch := first | assumption | omega) only [go_sem, *, arr_all, Option.isSome_some, j1, o, ↓bin_eqI, ↓bin_neI, Nat.reduceAdd, Nat.reduceSub, Nat.reduceMul, Nat.reduceBEq, Nat.reduceLeDiff, Nat.reduceLT, Nat.reduceDiv, Nat.reduceMod]); repeat' ((first | with_reducible first | refine caK (fun hb => ?_) fun hb => ?_ | refine caG (fun hb => ?_) fun hb => ?_ | refine caP (fun hb => ?_) fun hb => ?_ | refine caH (fun hb => ?_) fun hb => ?_ | refine caQ (fun hb => ?_) fun hb => ?_ | refine ite_cases (fun hb => ?_) fun hb => ?_ | rw [drwK_ok rfl]) <;> try simp (maxSteps := 4000000) (disch := first | assumption | omega) only [go_sem, *, arr_all, Option.isSome_some, j1, o, ↓bin_eqI, ↓bin_neI, Nat.reduceAdd, Nat.reduceSub, Nat.reduceMul, Nat.reduceBEq, Nat.reduceLeDiff, Nat.reduceLT, Nat.reduceDiv, Nat.reduceMod])
theorem salt_n0 (s : List UInt8) (hs : s.length ≤ 24) (n a n' : Nat) (w : Int) (p : List D) (ps : List (List D)) (hn : n ≤ s.length) (hx : nx 124 (s.drop n) = true) (hlen : (p :: ps).length ≤ 59) (e : fnL Try.prog T L0 67 [.c (.ptr 0 0 0)] (hS s (n + 1) false (p :: ps)) = some (.one (.c (.d (.v (.int .i64 (w))))), hS s n' true (p :: ps))) : loopC Try.prog T (fnL Try.prog T L0) 56 (cq g56 [0, 0, 0, 1, 1]) ⟨[.one (.c (.ptr 0 0 0)), J, J, .one (.c (.d (.v (.int .i64 ((a : Int)))))), J, J, J, J, J, J, J, J, J, J, J, J, J, J, J, J, J, J, J, J, J, J], hpOf [some (.var [.d (.v (.string (B (s)))), .d (.v (.int .i64 ((n : Int)))), .d (.v (.bool (false))), .arr 1 0 (p :: ps).length]), some (.arr 3 (p :: ps))], 2, 1⟩ = some (.exit 0, ⟨[J, J, J, .one (.c (.d (.v (.int .i64 (((ps.length + 1 : Nat) : Int)))))), J, J, J, J, J, J, J, J, J, J, J, J, J, J, J, J, J, J, J, J, J, J], hpOf [some (.var [.d (.v (.string (B (s)))), .d (.v (.int .i64 ((n' : Int)))), .d (.v (.bool (true))), .arr 1 0 ((p :: ps) ++ [row 6 [] [(a : Int), w]]).length]), some (.arr 3 ((p :: ps) ++ [row 6 [] [(a : Int), w]]))], 2, 1⟩) := by
  have j1 := sis_ne 124 s n (by omega) hs (p :: ps) (by simp)
  simp only [show ((124 : UInt8).toNat : Int) = 124 from rfl] at j1
  rw [hx] at j1
  have ec : ((n + 1 : Nat) : Int) = (n : Int) + 1 := by omega
  have hl3 : (n : Int) ≤ 24 := by omega
  clear hx
  have hp := sput_kids_bad 6 [] [(a : Int), w] (by simp) s n' (p :: ps) (ps.length + 1) rfl ⟨by omega, by simp at hlen; omega⟩
  have hj := sis_bad 124 s n' ((p :: ps) ++ [row 6 [] [(a : Int), w]])
  simp only [rI, List.map_cons, List.map_nil, List.length_cons, List.length_nil, Nat.zero_add, Nat.reduceAdd, hS, ec, List.cons_append, List.length_append] at hp e hj j1 ⊢
  have o := o56_11000; simp only [OE, opsR, cqR, subR, chi, Try.f56] at o
  rw [loopC_round]
  (try simp (maxSteps := 4000000) (disch := first | assumption | omega) only [go_sem, *, arr_all, Option.isSome_some, j1, e, hp, hj, B_empty, loopC_round, List.length_append, o, ↓bin_eqI, ↓bin_neI, Nat.reduceAdd, Nat.reduceSub, Nat.reduceMul, Nat.reduceBEq, Nat.reduceLeDiff, Nat.reduceLT, Nat.reduceDiv, Nat.reduceMod]); repeat' ((first | with_reducible first | refine caK (fun hb => ?_) fun hb => ?_ | refine caG (fun hb => ?_) fun hb => ?_ | refine caP (fun hb => ?_) fun hb => ?_ | refine caH (fun hb => ?_) fun hb => ?_ | refine caQ (fun hb => ?_) fun hb => ?_ | refine ite_cases (fun hb => ?_) fun hb => ?_ | rw [drwK_ok rfl]) <;> try simp (maxSteps := 4000000) (disch := first | assumption | omega) only [go_sem, *, arr_all, Option.isSome_some, j1, e, hp, hj, B_empty, loopC_round, List.length_append, o, ↓bin_eqI, ↓bin_neI, Nat.reduceAdd, Nat.reduceSub, Nat.reduceMul, Nat.reduceBEq, Nat.reduceLeDiff, Nat.reduceLT, Nat.reduceDiv, Nat.reduceMod])
theorem salt_m0 (s : List UInt8) (hs : s.length ≤ 24) (n a n' : Nat) (w : Int) (p : List D) (ps R' : List (List D)) (hn : n ≤ s.length) (hx : nx 124 (s.drop n) = true) (hlen : (p :: ps).length ≤ 59) (y1 : 1 ≤ R'.length) (y2 : R'.length ≤ 99) (e : fnL Try.prog T L0 67 [.c (.ptr 0 0 0)] (hS s (n + 1) false (p :: ps)) = some (.one (.c (.d (.v (.int .i64 (w))))), hT (p :: ps) s n' true R')) : loopC Try.prog T (fnL Try.prog T L0) 56 (cq g56 [0, 0, 0, 1, 1]) ⟨[.one (.c (.ptr 0 0 0)), J, J, .one (.c (.d (.v (.int .i64 ((a : Int)))))), J, J, J, J, J, J, J, J, J, J, J, J, J, J, J, J, J, J, J, J, J, J], hpOf [some (.var [.d (.v (.string (B (s)))), .d (.v (.int .i64 ((n : Int)))), .d (.v (.bool (false))), .arr 1 0 (p :: ps).length]), some (.arr 3 (p :: ps))], 2, 1⟩ = some (.exit 0, ⟨[J, J, J, .one (.c (.d (.v (.int .i64 (((R'.length : Nat) : Int)))))), J, J, J, J, J, J, J, J, J, J, J, J, J, J, J, J, J, J, J, J, J, J], hpOf [some (.var [.d (.v (.string (B (s)))), .d (.v (.int .i64 ((n' : Int)))), .d (.v (.bool (true))), .arr 1 0 (R' ++ [row 6 [] [(a : Int), w]]).length]), some (.arr 3 (R' ++ [row 6 [] [(a : Int), w]]))], 2, 1⟩) := by
  have j1 := sis_ne 124 s n (by omega) hs (p :: ps) (by simp)
  simp only [show ((124 : UInt8).toNat : Int) = 124 from rfl] at j1
  rw [hx] at j1
  have ec : ((n + 1 : Nat) : Int) = (n : Int) + 1 := by omega
  have hl3 : (n : Int) ≤ 24 := by omega
  clear hx
  have hp := sput_kids_bad 6 [] [(a : Int), w] (by simp) s n' R' R'.length rfl ⟨by omega, by omega⟩
  have hj := sis_nbad 124 s n' (R' ++ [row 6 [] [(a : Int), w]]) (by simp)
  simp only [rI, List.map_cons, List.map_nil, List.length_cons, List.length_nil, Nat.zero_add, Nat.reduceAdd, hS, hT, ec, List.length_append] at hp e hj j1 ⊢
  have o := o56_11000; simp only [OE, opsR, cqR, subR, chi, Try.f56] at o
  rw [loopC_round]
  (try simp (maxSteps := 4000000) (disch := first | assumption | omega) only [go_sem, *, arr_all, Option.isSome_some, j1, e, hp, hj, B_empty, loopC_round, List.length_append, o, ↓bin_eqI, ↓bin_neI, Nat.reduceAdd, Nat.reduceSub, Nat.reduceMul, Nat.reduceBEq, Nat.reduceLeDiff, Nat.reduceLT, Nat.reduceDiv, Nat.reduceMod]); repeat' ((first | with_reducible first | refine caK (fun hb => ?_) fun hb => ?_ | refine caG (fun hb => ?_) fun hb => ?_ | refine caP (fun hb => ?_) fun hb => ?_ | refine caH (fun hb => ?_) fun hb => ?_ | refine caQ (fun hb => ?_) fun hb => ?_ | refine ite_cases (fun hb => ?_) fun hb => ?_ | rw [drwK_ok rfl]) <;> try simp (maxSteps := 4000000) (disch := first | assumption | omega) only [go_sem, *, arr_all, Option.isSome_some, j1, e, hp, hj, B_empty, loopC_round, List.length_append, o, ↓bin_eqI, ↓bin_neI, Nat.reduceAdd, Nat.reduceSub, Nat.reduceMul, Nat.reduceBEq, Nat.reduceLeDiff, Nat.reduceLT, Nat.reduceDiv, Nat.reduceMod])
theorem salt_o0 (s : List UInt8) (hs : s.length ≤ 24) (n a n2 a2 : Nat) (p : List D) (ps R2 : List (List D)) (hn : n ≤ s.length) (hx : nx 124 (s.drop n) = true) (hlen : (p :: ps).length ≤ 59) (h2 : 1 ≤ R2.length) (h3 : R2.length ≤ 59) (e : fnL Try.prog T L0 67 [.c (.ptr 0 0 0)] (hS s (n + 1) false (p :: ps)) = some (.one (.c (.d (.v (.int .i64 ((a2 : Int)))))), hT (p :: ps) s n2 false R2)) (rhs : Option (Ex × St)) (q5 : loopC Try.prog T (fnL Try.prog T L0) 56 (cq g56 [0, 0, 0, 1, 1]) ⟨[.one (.c (.ptr 0 0 0)), J, J, .one (.c (.d (.v (.int .i64 (((R2.length : Nat) : Int)))))), J, J, J, J, J, J, J, J, J, J, J, J, J, J, J, J, J, J, J, J, J, J], hpOf [some (.var [.d (.v (.string (B (s)))), .d (.v (.int .i64 ((n2 : Int)))), .d (.v (.bool (false))), .arr 1 0 (R2 ++ [row 6 [] [(a : Int), (a2 : Int)]]).length]), some (.arr 3 (R2 ++ [row 6 [] [(a : Int), (a2 : Int)]]))], 2, 1⟩ = rhs) : loopC Try.prog T (fnL Try.prog T L0) 56 (cq g56 [0, 0, 0, 1, 1]) ⟨[.one (.c (.ptr 0 0 0)), J, J, .one (.c (.d (.v (.int .i64 ((a : Int)))))), J, J, J, J, J, J, J, J, J, J, J, J, J, J, J, J, J, J, J, J, J, J], hpOf [some (.var [.d (.v (.string (B (s)))), .d (.v (.int .i64 ((n : Int)))), .d (.v (.bool (false))), .arr 1 0 (p :: ps).length]), some (.arr 3 (p :: ps))], 2, 1⟩ = rhs := by
  have j1 := sis_ne 124 s n (by omega) hs (p :: ps) (by simp)
  simp only [show ((124 : UInt8).toNat : Int) = 124 from rfl] at j1
  rw [hx] at j1
  have ec : ((n + 1 : Nat) : Int) = (n : Int) + 1 := by omega
  have hl3 : (n : Int) ≤ 24 := by omega
  clear hx
  have hp := sput_kids 6 [] [(a : Int), (a2 : Int)] (by simp) s n2 false R2 R2.length rfl ⟨by omega, by omega⟩
  simp only [rI, List.map_cons, List.map_nil, List.length_cons, List.length_nil, Nat.zero_add, Nat.reduceAdd, hS, hT, ec, List.length_append] at hp e q5 j1 ⊢
  rw [← q5]
  clear q5
  have o := o56_11000; simp only [OE, opsR, cqR, subR, chi, Try.f56] at o
  rw [loopC_round]
  (try simp (maxSteps := 4000000) (disch := first | assumption | omega) only [go_sem, *, arr_all, Option.isSome_some, j1, e, hp, B_empty, List.length_append, o, ↓bin_eqI, ↓bin_neI, Nat.reduceAdd, Nat.reduceSub, Nat.reduceMul, Nat.reduceBEq, Nat.reduceLeDiff, Nat.reduceLT, Nat.reduceDiv, Nat.reduceMod]); repeat' ((first | with_reducible first | refine caK (fun hb => ?_) fun hb => ?_ | refine caG (fun hb => ?_) fun hb => ?_ | refine caP (fun hb => ?_) fun hb => ?_ | refine caH (fun hb => ?_) fun hb => ?_ | refine caQ (fun hb => ?_) fun hb => ?_ | refine ite_cases (fun hb => ?_) fun hb => ?_ | rw [drwK_ok rfl]) <;> try simp (maxSteps := 4000000) (disch := first | assumption | omega) only [go_sem, *, arr_all, Option.isSome_some, j1, e, hp, B_empty, List.length_append, o, ↓bin_eqI, ↓bin_neI, Nat.reduceAdd, Nat.reduceSub, Nat.reduceMul, Nat.reduceBEq, Nat.reduceLeDiff, Nat.reduceLT, Nat.reduceDiv, Nat.reduceMod])
theorem salt_loop0 (s : List UInt8) (hs : s.length ≤ 24) : ∀ (k : Nat), (∀ j, j < k → PIS 67 mRow 1 5 j) → ∀ (n a : Nat) (R : List (List D)), n ≤ s.length → 6 * (s.length - n) + 1 ≤ k → 1 ≤ R.length → R.length + 2 * (s.length - n) ≤ 59 →
    match mAltL k (s.drop n) with
    | some rest => ∃ (a' n' : Nat) (R' : List (List D)), n' ≤ s.length ∧ rest = s.drop n' ∧ (R.length ≤ R'.length ∧ R'.length + 2 * (s.length - n') ≤ R.length + 2 * (s.length - n)) ∧ (s.length - n' ≤ s.length - n) ∧
      loopC Try.prog T (fnL Try.prog T L0) 56 (cq g56 [0, 0, 0, 1, 1]) ⟨[.one (.c (.ptr 0 0 0)), J, J, .one (.c (.d (.v (.int .i64 ((a : Int)))))), J, J, J, J, J, J, J, J, J, J, J, J, J, J, J, J, J, J, J, J, J, J], hpOf [some (.var [.d (.v (.string (B (s)))), .d (.v (.int .i64 ((n : Int)))), .d (.v (.bool (false))), .arr 1 0 R.length]), some (.arr 3 R)], 2, 1⟩ = some (.exit 0, ⟨[J, J, J, .one (.c (.d (.v (.int .i64 ((a' : Int)))))), J, J, J, J, J, J, J, J, J, J, J, J, J, J, J, J, J, J, J, J, J, J], hpOf [some (.var [.d (.v (.string (B (s)))), .d (.v (.int .i64 ((n' : Int)))), .d (.v (.bool (false))), .arr 1 0 R'.length]), some (.arr 3 R')], 2, 1⟩)
    | none => ∃ (w : Int) (n' : Nat) (R' : List (List D)), 1 ≤ R'.length ∧ R'.length ≤ R.length + 2 * (s.length - n) + 2 ∧
      loopC Try.prog T (fnL Try.prog T L0) 56 (cq g56 [0, 0, 0, 1, 1]) ⟨[.one (.c (.ptr 0 0 0)), J, J, .one (.c (.d (.v (.int .i64 ((a : Int)))))), J, J, J, J, J, J, J, J, J, J, J, J, J, J, J, J, J, J, J, J, J, J], hpOf [some (.var [.d (.v (.string (B (s)))), .d (.v (.int .i64 ((n : Int)))), .d (.v (.bool (false))), .arr 1 0 R.length]), some (.arr 3 R)], 2, 1⟩ = some (.exit 0, ⟨[J, J, J, .one (.c (.d (.v (.int .i64 (w))))), J, J, J, J, J, J, J, J, J, J, J, J, J, J, J, J, J, J, J, J, J, J], hpOf [some (.var [.d (.v (.string (B (s)))), .d (.v (.int .i64 ((n' : Int)))), .d (.v (.bool (true))), .arr 1 0 R'.length]), some (.arr 3 R')], 2, 1⟩)
  | 0, _, n, a, R, _, hk, _, _ => by omega
  | k + 1, hT', n, a, R, hn, hk, hR, hlen => by
    simp only [mAltL]
    cases hx : nx 124 (s.drop n) with
    | false => exact ⟨a, n, R, hn, rfl, ⟨by omega, by omega⟩, by omega, salt_z0 s hs n a R hn hR hx⟩
    | true =>
      have hl := nx_true hx
      rw [ne_eq, List.drop_eq_nil_iff] at hl
      obtain ⟨p, ps, rfl⟩ : ∃ p ps, R = p :: ps := by
        cases R with
        | nil => simp at hR
        | cons p ps => exact ⟨p, ps, rfl⟩
      have hb := hT' k (by omega) s (n + 1) (p :: ps) (by omega) (by omega) (by omega) hs
      simp only [List.drop_drop]
      cases hm : mRow k (s.drop (n + 1)) with
      | none =>
        rw [hm] at hb
        obtain ⟨w, bs, e, hbs⟩ := hb
        rcases hbs with ⟨n', rfl⟩ | ⟨n', R', y1, y2, rfl⟩
        · exact ⟨((ps.length + 1 : Nat) : Int), n', (p :: ps) ++ [row 6 [] [(a : Int), w]], by simp, by simp; omega, salt_n0 s hs n a n' w p ps hn hx (by omega) e⟩
        · exact ⟨((R'.length : Nat) : Int), n', R' ++ [row 6 [] [(a : Int), w]], by simp, by have e1 : (p :: ps).length = ps.length + 1 := rfl; simp at y2 ⊢; omega, salt_m0 s hs n a n' w p ps R' hn hx (by omega) y1 (by omega) e⟩
      | some r =>
        rw [hm] at hb
        obtain ⟨a2, n2, R2, e, g1, g2, ⟨g3, g4⟩, g5⟩ := hb
        subst g2
        have ih := salt_loop0 s hs k (fun j hj => hT' j (by omega)) n2 R2.length (R2 ++ [row 6 [] [(a : Int), (a2 : Int)]]) g1 (by omega) (by simp) (by simp; omega)
        clear hT' hm
        simp only
        cases hml : mAltL k (s.drop n2) with
        | some rest =>
          rw [hml] at ih
          obtain ⟨a', n', R', q1, q2, q3, q4, q5⟩ := ih
          exact ⟨a', n', R', q1, q2, by have e1 : (p :: ps).length = ps.length + 1 := rfl; simp at q3 g4 ⊢; omega, by omega, salt_o0 s hs n a n2 a2 p ps R2 hn hx (by omega) (by omega) (by omega) e _ q5⟩
        | none =>
          rw [hml] at ih
          obtain ⟨w, n', R', q1, q2, q5⟩ := ih
          exact ⟨w, n', R', q1, by have e1 : (p :: ps).length = ps.length + 1 := rfl; simp at q2 g4 ⊢; omega, salt_o0 s hs n a n2 a2 p ps R2 hn hx (by omega) (by omega) (by omega) e _ q5⟩
theorem salt_z1 (s : List UInt8) (hs : s.length ≤ 24) (n a : Nat) (R : List (List D)) (hn : n ≤ s.length) (hR : 1 ≤ R.length) (hx : nx 124 (s.drop n) = false) : loopC Try.prog T (fnL Try.prog T L0) 56 (cq g56 [0, 0, 0, 1, 1]) ⟨[.one (.c (.ptr 0 0 0)), J, J, .one (.c (.d (.v (.int .i64 ((a : Int)))))), J, J, J, J, J, J, J, J, J, J, J, J, J, J, J, J, J, J, J, J, J, J], hpOf [some (.var [.d (.v (.string (B (s)))), .d (.v (.int .i64 ((n : Int)))), .d (.v (.bool (false))), .arr 2 0 R.length]), none, some (.arr 3 R)], 3, 2⟩ = some (.exit 0, ⟨[J, J, J, .one (.c (.d (.v (.int .i64 ((a : Int)))))), J, J, J, J, J, J, J, J, J, J, J, J, J, J, J, J, J, J, J, J, J, J], hpOf [some (.var [.d (.v (.string (B (s)))), .d (.v (.int .i64 ((n : Int)))), .d (.v (.bool (false))), .arr 2 0 R.length]), none, some (.arr 3 R)], 3, 2⟩) := by
  have j1 := sis_ne 124 s n (by omega) hs R (by omega)
  simp only [show ((124 : UInt8).toNat : Int) = 124 from rfl] at j1
  rw [hx] at j1
  clear hx
  have o := o56_11000; simp only [OE, opsR, cqR, subR, chi, Try.f56] at o
  rw [loopC_round]
  (try simp (maxSteps := 4000000) (disch := first | assumption | omega) only [go_sem, *, arr_all, Option.isSome_some, j1, o, ↓bin_eqI, ↓bin_neI, Nat.reduceAdd, Nat.reduceSub, Nat.reduceMul, Nat.reduceBEq, Nat.reduceLeDiff, Nat.reduceLT, Nat.reduceDiv, Nat.reduceMod]); repeat' ((first | with_reducible first | refine caK (fun hb => ?_) fun hb => ?_ | refine caG (fun hb => ?_) fun hb => ?_ | refine caP (fun hb => ?_) fun hb => ?_ | refine caH (fun hb => ?_) fun hb => ?_ | refine caQ (fun hb => ?_) fun hb => ?_ | refine ite_cases (fun hb => ?_) fun hb => ?_ | rw [drwK_ok rfl]) <;> try simp (maxSteps := 4000000) (disch := first | assumption | omega) only [go_sem, *, arr_all, Option.isSome_some, j1, o, ↓bin_eqI, ↓bin_neI, Nat.reduceAdd, Nat.reduceSub, Nat.reduceMul, Nat.reduceBEq, Nat.reduceLeDiff, Nat.reduceLT, Nat.reduceDiv, Nat.reduceMod])
theorem salt_n1 (s : List UInt8) (hs : s.length ≤ 24) (n a n' : Nat) (w : Int) (p : List D) (ps : List (List D)) (hn : n ≤ s.length) (hx : nx 124 (s.drop n) = true) (hlen : (p :: ps).length ≤ 59) (e : fnL Try.prog T L0 67 [.c (.ptr 0 0 0)] (hS s (n + 1) false (p :: ps)) = some (.one (.c (.d (.v (.int .i64 (w))))), hS s n' true (p :: ps))) : loopC Try.prog T (fnL Try.prog T L0) 56 (cq g56 [0, 0, 0, 1, 1]) ⟨[.one (.c (.ptr 0 0 0)), J, J, .one (.c (.d (.v (.int .i64 ((a : Int)))))), J, J, J, J, J, J, J, J, J, J, J, J, J, J, J, J, J, J, J, J, J, J], hpOf [some (.var [.d (.v (.string (B (s)))), .d (.v (.int .i64 ((n : Int)))), .d (.v (.bool (false))), .arr 2 0 (p :: ps).length]), none, some (.arr 3 (p :: ps))], 3, 2⟩ = some (.exit 0, ⟨[J, J, J, .one (.c (.d (.v (.int .i64 (((ps.length + 1 : Nat) : Int)))))), J, J, J, J, J, J, J, J, J, J, J, J, J, J, J, J, J, J, J, J, J, J], hpOf [some (.var [.d (.v (.string (B (s)))), .d (.v (.int .i64 ((n' : Int)))), .d (.v (.bool (true))), .arr 2 0 ((p :: ps) ++ [row 6 [] [(a : Int), w]]).length]), none, some (.arr 3 ((p :: ps) ++ [row 6 [] [(a : Int), w]]))], 3, 2⟩) := by
  have j1 := sis_ne 124 s n (by omega) hs (p :: ps) (by simp)
  simp only [show ((124 : UInt8).toNat : Int) = 124 from rfl] at j1
  rw [hx] at j1
  have ec : ((n + 1 : Nat) : Int) = (n : Int) + 1 := by omega
  have hl3 : (n : Int) ≤ 24 := by omega
  clear hx
  have hp := sput_kids_bad 6 [] [(a : Int), w] (by simp) s n' (p :: ps) (ps.length + 1) rfl ⟨by omega, by simp at hlen; omega⟩
  have hj := sis_bad 124 s n' ((p :: ps) ++ [row 6 [] [(a : Int), w]])
  simp only [rI, List.map_cons, List.map_nil, List.length_cons, List.length_nil, Nat.zero_add, Nat.reduceAdd, hS, ec, List.cons_append, List.length_append] at hp e hj j1 ⊢
  have o := o56_11000; simp only [OE, opsR, cqR, subR, chi, Try.f56] at o
  rw [loopC_round]
  (try simp (maxSteps := 4000000) (disch := first | assumption | omega) only [go_sem, *, arr_all, Option.isSome_some, j1, e, hp, hj, B_empty, loopC_round, List.length_append, o, ↓bin_eqI, ↓bin_neI, Nat.reduceAdd, Nat.reduceSub, Nat.reduceMul, Nat.reduceBEq, Nat.reduceLeDiff, Nat.reduceLT, Nat.reduceDiv, Nat.reduceMod]); repeat' ((first | with_reducible first | refine caK (fun hb => ?_) fun hb => ?_ | refine caG (fun hb => ?_) fun hb => ?_ | refine caP (fun hb => ?_) fun hb => ?_ | refine caH (fun hb => ?_) fun hb => ?_ | refine caQ (fun hb => ?_) fun hb => ?_ | refine ite_cases (fun hb => ?_) fun hb => ?_ | rw [drwK_ok rfl]) <;> try simp (maxSteps := 4000000) (disch := first | assumption | omega) only [go_sem, *, arr_all, Option.isSome_some, j1, e, hp, hj, B_empty, loopC_round, List.length_append, o, ↓bin_eqI, ↓bin_neI, Nat.reduceAdd, Nat.reduceSub, Nat.reduceMul, Nat.reduceBEq, Nat.reduceLeDiff, Nat.reduceLT, Nat.reduceDiv, Nat.reduceMod])
theorem salt_m1 (s : List UInt8) (hs : s.length ≤ 24) (n a n' : Nat) (w : Int) (p : List D) (ps R' : List (List D)) (hn : n ≤ s.length) (hx : nx 124 (s.drop n) = true) (hlen : (p :: ps).length ≤ 59) (y1 : 1 ≤ R'.length) (y2 : R'.length ≤ 99) (e : fnL Try.prog T L0 67 [.c (.ptr 0 0 0)] (hS s (n + 1) false (p :: ps)) = some (.one (.c (.d (.v (.int .i64 (w))))), hT (p :: ps) s n' true R')) : loopC Try.prog T (fnL Try.prog T L0) 56 (cq g56 [0, 0, 0, 1, 1]) ⟨[.one (.c (.ptr 0 0 0)), J, J, .one (.c (.d (.v (.int .i64 ((a : Int)))))), J, J, J, J, J, J, J, J, J, J, J, J, J, J, J, J, J, J, J, J, J, J], hpOf [some (.var [.d (.v (.string (B (s)))), .d (.v (.int .i64 ((n : Int)))), .d (.v (.bool (false))), .arr 2 0 (p :: ps).length]), none, some (.arr 3 (p :: ps))], 3, 2⟩ = some (.exit 0, ⟨[J, J, J, .one (.c (.d (.v (.int .i64 (((R'.length : Nat) : Int)))))), J, J, J, J, J, J, J, J, J, J, J, J, J, J, J, J, J, J, J, J, J, J], hpOf [some (.var [.d (.v (.string (B (s)))), .d (.v (.int .i64 ((n' : Int)))), .d (.v (.bool (true))), .arr 2 0 (R' ++ [row 6 [] [(a : Int), w]]).length]), none, some (.arr 3 (R' ++ [row 6 [] [(a : Int), w]]))], 3, 2⟩) := by
  have j1 := sis_ne 124 s n (by omega) hs (p :: ps) (by simp)
  simp only [show ((124 : UInt8).toNat : Int) = 124 from rfl] at j1
  rw [hx] at j1
  have ec : ((n + 1 : Nat) : Int) = (n : Int) + 1 := by omega
  have hl3 : (n : Int) ≤ 24 := by omega
  clear hx
  have hp := sput_kids_bad 6 [] [(a : Int), w] (by simp) s n' R' R'.length rfl ⟨by omega, by omega⟩
  have hj := sis_nbad 124 s n' (R' ++ [row 6 [] [(a : Int), w]]) (by simp)
  simp only [rI, List.map_cons, List.map_nil, List.length_cons, List.length_nil, Nat.zero_add, Nat.reduceAdd, hS, hT, ec, List.length_append] at hp e hj j1 ⊢
  have o := o56_11000; simp only [OE, opsR, cqR, subR, chi, Try.f56] at o
  rw [loopC_round]
  (try simp (maxSteps := 4000000) (disch := first | assumption | omega) only [go_sem, *, arr_all, Option.isSome_some, j1, e, hp, hj, B_empty, loopC_round, List.length_append, o, ↓bin_eqI, ↓bin_neI, Nat.reduceAdd, Nat.reduceSub, Nat.reduceMul, Nat.reduceBEq, Nat.reduceLeDiff, Nat.reduceLT, Nat.reduceDiv, Nat.reduceMod]); repeat' ((first | with_reducible first | refine caK (fun hb => ?_) fun hb => ?_ | refine caG (fun hb => ?_) fun hb => ?_ | refine caP (fun hb => ?_) fun hb => ?_ | refine caH (fun hb => ?_) fun hb => ?_ | refine caQ (fun hb => ?_) fun hb => ?_ | refine ite_cases (fun hb => ?_) fun hb => ?_ | rw [drwK_ok rfl]) <;> try simp (maxSteps := 4000000) (disch := first | assumption | omega) only [go_sem, *, arr_all, Option.isSome_some, j1, e, hp, hj, B_empty, loopC_round, List.length_append, o, ↓bin_eqI, ↓bin_neI, Nat.reduceAdd, Nat.reduceSub, Nat.reduceMul, Nat.reduceBEq, Nat.reduceLeDiff, Nat.reduceLT, Nat.reduceDiv, Nat.reduceMod])
theorem salt_o1 (s : List UInt8) (hs : s.length ≤ 24) (n a n2 a2 : Nat) (p : List D) (ps R2 : List (List D)) (hn : n ≤ s.length) (hx : nx 124 (s.drop n) = true) (hlen : (p :: ps).length ≤ 59) (h2 : 1 ≤ R2.length) (h3 : R2.length ≤ 59) (e : fnL Try.prog T L0 67 [.c (.ptr 0 0 0)] (hS s (n + 1) false (p :: ps)) = some (.one (.c (.d (.v (.int .i64 ((a2 : Int)))))), hT (p :: ps) s n2 false R2)) (rhs : Option (Ex × St)) (q5 : loopC Try.prog T (fnL Try.prog T L0) 56 (cq g56 [0, 0, 0, 1, 1]) ⟨[.one (.c (.ptr 0 0 0)), J, J, .one (.c (.d (.v (.int .i64 (((R2.length : Nat) : Int)))))), J, J, J, J, J, J, J, J, J, J, J, J, J, J, J, J, J, J, J, J, J, J], hpOf [some (.var [.d (.v (.string (B (s)))), .d (.v (.int .i64 ((n2 : Int)))), .d (.v (.bool (false))), .arr 2 0 (R2 ++ [row 6 [] [(a : Int), (a2 : Int)]]).length]), none, some (.arr 3 (R2 ++ [row 6 [] [(a : Int), (a2 : Int)]]))], 3, 2⟩ = rhs) : loopC Try.prog T (fnL Try.prog T L0) 56 (cq g56 [0, 0, 0, 1, 1]) ⟨[.one (.c (.ptr 0 0 0)), J, J, .one (.c (.d (.v (.int .i64 ((a : Int)))))), J, J, J, J, J, J, J, J, J, J, J, J, J, J, J, J, J, J, J, J, J, J], hpOf [some (.var [.d (.v (.string (B (s)))), .d (.v (.int .i64 ((n : Int)))), .d (.v (.bool (false))), .arr 2 0 (p :: ps).length]), none, some (.arr 3 (p :: ps))], 3, 2⟩ = rhs := by
  have j1 := sis_ne 124 s n (by omega) hs (p :: ps) (by simp)
  simp only [show ((124 : UInt8).toNat : Int) = 124 from rfl] at j1
  rw [hx] at j1
  have ec : ((n + 1 : Nat) : Int) = (n : Int) + 1 := by omega
  have hl3 : (n : Int) ≤ 24 := by omega
  clear hx
  have hp := sput_kids 6 [] [(a : Int), (a2 : Int)] (by simp) s n2 false R2 R2.length rfl ⟨by omega, by omega⟩
  simp only [rI, List.map_cons, List.map_nil, List.length_cons, List.length_nil, Nat.zero_add, Nat.reduceAdd, hS, hT, ec, List.length_append] at hp e q5 j1 ⊢
  rw [← q5]
  clear q5
  have o := o56_11000; simp only [OE, opsR, cqR, subR, chi, Try.f56] at o
  rw [loopC_round]
  (try simp (maxSteps := 4000000) (disch := first | assumption | omega) only [go_sem, *, arr_all, Option.isSome_some, j1, e, hp, B_empty, List.length_append, o, ↓bin_eqI, ↓bin_neI, Nat.reduceAdd, Nat.reduceSub, Nat.reduceMul, Nat.reduceBEq, Nat.reduceLeDiff, Nat.reduceLT, Nat.reduceDiv, Nat.reduceMod]); repeat' ((first | with_reducible first | refine caK (fun hb => ?_) fun hb => ?_ | refine caG (fun hb => ?_) fun hb => ?_ | refine caP (fun hb => ?_) fun hb => ?_ | refine caH (fun hb => ?_) fun hb => ?_ | refine caQ (fun hb => ?_) fun hb => ?_ | refine ite_cases (fun hb => ?_) fun hb => ?_ | rw [drwK_ok rfl]) <;> try simp (maxSteps := 4000000) (disch := first | assumption | omega) only [go_sem, *, arr_all, Option.isSome_some, j1, e, hp, B_empty, List.length_append, o, ↓bin_eqI, ↓bin_neI, Nat.reduceAdd, Nat.reduceSub, Nat.reduceMul, Nat.reduceBEq, Nat.reduceLeDiff, Nat.reduceLT, Nat.reduceDiv, Nat.reduceMod])
theorem salt_loop1 (s : List UInt8) (hs : s.length ≤ 24) : ∀ (k : Nat), (∀ j, j < k → PIS 67 mRow 1 5 j) → ∀ (n a : Nat) (R : List (List D)), n ≤ s.length → 6 * (s.length - n) + 1 ≤ k → 1 ≤ R.length → R.length + 2 * (s.length - n) ≤ 59 →
    match mAltL k (s.drop n) with
    | some rest => ∃ (a' n' : Nat) (R' : List (List D)), n' ≤ s.length ∧ rest = s.drop n' ∧ (R.length ≤ R'.length ∧ R'.length + 2 * (s.length - n') ≤ R.length + 2 * (s.length - n)) ∧ (s.length - n' ≤ s.length - n) ∧
      loopC Try.prog T (fnL Try.prog T L0) 56 (cq g56 [0, 0, 0, 1, 1]) ⟨[.one (.c (.ptr 0 0 0)), J, J, .one (.c (.d (.v (.int .i64 ((a : Int)))))), J, J, J, J, J, J, J, J, J, J, J, J, J, J, J, J, J, J, J, J, J, J], hpOf [some (.var [.d (.v (.string (B (s)))), .d (.v (.int .i64 ((n : Int)))), .d (.v (.bool (false))), .arr 2 0 R.length]), none, some (.arr 3 R)], 3, 2⟩ = some (.exit 0, ⟨[J, J, J, .one (.c (.d (.v (.int .i64 ((a' : Int)))))), J, J, J, J, J, J, J, J, J, J, J, J, J, J, J, J, J, J, J, J, J, J], hpOf [some (.var [.d (.v (.string (B (s)))), .d (.v (.int .i64 ((n' : Int)))), .d (.v (.bool (false))), .arr 2 0 R'.length]), none, some (.arr 3 R')], 3, 2⟩)
    | none => ∃ (w : Int) (n' : Nat) (R' : List (List D)), 1 ≤ R'.length ∧ R'.length ≤ R.length + 2 * (s.length - n) + 2 ∧
      loopC Try.prog T (fnL Try.prog T L0) 56 (cq g56 [0, 0, 0, 1, 1]) ⟨[.one (.c (.ptr 0 0 0)), J, J, .one (.c (.d (.v (.int .i64 ((a : Int)))))), J, J, J, J, J, J, J, J, J, J, J, J, J, J, J, J, J, J, J, J, J, J], hpOf [some (.var [.d (.v (.string (B (s)))), .d (.v (.int .i64 ((n : Int)))), .d (.v (.bool (false))), .arr 2 0 R.length]), none, some (.arr 3 R)], 3, 2⟩ = some (.exit 0, ⟨[J, J, J, .one (.c (.d (.v (.int .i64 (w))))), J, J, J, J, J, J, J, J, J, J, J, J, J, J, J, J, J, J, J, J, J, J], hpOf [some (.var [.d (.v (.string (B (s)))), .d (.v (.int .i64 ((n' : Int)))), .d (.v (.bool (true))), .arr 2 0 R'.length]), none, some (.arr 3 R')], 3, 2⟩)
  | 0, _, n, a, R, _, hk, _, _ => by omega
  | k + 1, hT', n, a, R, hn, hk, hR, hlen => by
    simp only [mAltL]
    cases hx : nx 124 (s.drop n) with
    | false => exact ⟨a, n, R, hn, rfl, ⟨by omega, by omega⟩, by omega, salt_z1 s hs n a R hn hR hx⟩
    | true =>
      have hl := nx_true hx
      rw [ne_eq, List.drop_eq_nil_iff] at hl
      obtain ⟨p, ps, rfl⟩ : ∃ p ps, R = p :: ps := by
        cases R with
        | nil => simp at hR
        | cons p ps => exact ⟨p, ps, rfl⟩
      have hb := hT' k (by omega) s (n + 1) (p :: ps) (by omega) (by omega) (by omega) hs
      simp only [List.drop_drop]
      cases hm : mRow k (s.drop (n + 1)) with
      | none =>
        rw [hm] at hb
        obtain ⟨w, bs, e, hbs⟩ := hb
        rcases hbs with ⟨n', rfl⟩ | ⟨n', R', y1, y2, rfl⟩
        · exact ⟨((ps.length + 1 : Nat) : Int), n', (p :: ps) ++ [row 6 [] [(a : Int), w]], by simp, by simp; omega, salt_n1 s hs n a n' w p ps hn hx (by omega) e⟩
        · exact ⟨((R'.length : Nat) : Int), n', R' ++ [row 6 [] [(a : Int), w]], by simp, by have e1 : (p :: ps).length = ps.length + 1 := rfl; simp at y2 ⊢; omega, salt_m1 s hs n a n' w p ps R' hn hx (by omega) y1 (by omega) e⟩
      | some r =>
        rw [hm] at hb
        obtain ⟨a2, n2, R2, e, g1, g2, ⟨g3, g4⟩, g5⟩ := hb
        subst g2
        have ih := salt_loop1 s hs k (fun j hj => hT' j (by omega)) n2 R2.length (R2 ++ [row 6 [] [(a : Int), (a2 : Int)]]) g1 (by omega) (by simp) (by simp; omega)
        clear hT' hm
        simp only
        cases hml : mAltL k (s.drop n2) with
        | some rest =>
          rw [hml] at ih
          obtain ⟨a', n', R', q1, q2, q3, q4, q5⟩ := ih
          exact ⟨a', n', R', q1, q2, by have e1 : (p :: ps).length = ps.length + 1 := rfl; simp at q3 g4 ⊢; omega, by omega, salt_o1 s hs n a n2 a2 p ps R2 hn hx (by omega) (by omega) (by omega) e _ q5⟩
        | none =>
          rw [hml] at ih
          obtain ⟨w, n', R', q1, q2, q5⟩ := ih
          exact ⟨w, n', R', q1, by have e1 : (p :: ps).length = ps.length + 1 := rfl; simp at q2 g4 ⊢; omega, salt_o1 s hs n a n2 a2 p ps R2 hn hx (by omega) (by omega) (by omega) e _ q5⟩
theorem salt_of (k : Nat) (hT' : ∀ j, j < k + 1 → PIS 67 mRow 1 5 j) : PIS 56 mAlt 1 6 (k + 1) := by
  intro s n R0 hn hk hlen hs
  have hb := hT' k (by omega) s n R0 hn (by omega) hlen hs
  simp only [mAlt]
  cases hm : mRow k (s.drop n) with
  | none =>
    rw [hm] at hb
    obtain ⟨w, bs, e, hbs⟩ := hb
    refine ⟨w, bs, ?_, hbs⟩
    clear hm hlen hk hT'
    rcases hbs with ⟨n', rfl⟩ | ⟨n', R, y1, y2, rfl⟩
    · have hj := sis_bad 124 s n' R0
      cases R0
      all_goals
        simp only [hS, hT] at e hj ⊢
        refine fnL_run rfl N56 Try.func56 U56 ?_; have o := o56; simp only [OE, opsR, cqR, subR, chi, Try.f56] at o
        (try simp (maxSteps := 4000000) (disch := first | assumption | omega) only [go_sem, *, arr_all, Option.isSome_some, e, hj, loopC_round, o, ↓bin_eqI, ↓bin_neI, Nat.reduceAdd, Nat.reduceSub, Nat.reduceMul, Nat.reduceBEq, Nat.reduceLeDiff, Nat.reduceLT, Nat.reduceDiv, Nat.reduceMod]); repeat' ((first | with_reducible first | refine caK (fun hb => ?_) fun hb => ?_ | refine caG (fun hb => ?_) fun hb => ?_ | refine caP (fun hb => ?_) fun hb => ?_ | refine caH (fun hb => ?_) fun hb => ?_ | refine caQ (fun hb => ?_) fun hb => ?_ | refine ite_cases (fun hb => ?_) fun hb => ?_ | rw [drwK_ok rfl]) <;> try simp (maxSteps := 4000000) (disch := first | assumption | omega) only [go_sem, *, arr_all, Option.isSome_some, e, hj, loopC_round, o, ↓bin_eqI, ↓bin_neI, Nat.reduceAdd, Nat.reduceSub, Nat.reduceMul, Nat.reduceBEq, Nat.reduceLeDiff, Nat.reduceLT, Nat.reduceDiv, Nat.reduceMod])
    · have hj := sis_nbad 124 s n' R y1
      cases R0
      all_goals
        simp only [hS, hT] at e hj ⊢
        refine fnL_run rfl N56 Try.func56 U56 ?_; have o := o56; simp only [OE, opsR, cqR, subR, chi, Try.f56] at o
        (try simp (maxSteps := 4000000) (disch := first | assumption | omega) only [go_sem, *, arr_all, Option.isSome_some, e, hj, loopC_round, o, ↓bin_eqI, ↓bin_neI, Nat.reduceAdd, Nat.reduceSub, Nat.reduceMul, Nat.reduceBEq, Nat.reduceLeDiff, Nat.reduceLT, Nat.reduceDiv, Nat.reduceMod]); repeat' ((first | with_reducible first | refine caK (fun hb => ?_) fun hb => ?_ | refine caG (fun hb => ?_) fun hb => ?_ | refine caP (fun hb => ?_) fun hb => ?_ | refine caH (fun hb => ?_) fun hb => ?_ | refine caQ (fun hb => ?_) fun hb => ?_ | refine ite_cases (fun hb => ?_) fun hb => ?_ | rw [drwK_ok rfl]) <;> try simp (maxSteps := 4000000) (disch := first | assumption | omega) only [go_sem, *, arr_all, Option.isSome_some, e, hj, loopC_round, o, ↓bin_eqI, ↓bin_neI, Nat.reduceAdd, Nat.reduceSub, Nat.reduceMul, Nat.reduceBEq, Nat.reduceLeDiff, Nat.reduceLT, Nat.reduceDiv, Nat.reduceMod])
  | some r =>
    rw [hm] at hb
    obtain ⟨a, n2, R, e, g1, g2, ⟨g3, g4⟩, g5⟩ := hb
    subst g2
    simp only
    cases R0 with
    | nil =>
      have ih := salt_loop0 s hs k (fun j hj => hT' j (by omega)) n2 a R g1 (by omega) (by omega) (by simp at g4 hlen; omega)
      cases hml : mAltL k (s.drop n2) with
      | some rest =>
        rw [hml] at ih
        obtain ⟨a', n', R', q1, q2, q3, q4, q5⟩ := ih
        refine ⟨a', n', R', ?_, q1, q2, ⟨by omega, by simp at g4 ⊢; omega⟩, by omega⟩
        clear q1 q2 q3 q4 g1 g3 g4 g5 hml hm hlen hk hT'
        simp only [hS, hT] at e ⊢
        refine fnL_run rfl N56 Try.func56 U56 ?_; have o := o56; simp only [OE, opsR, cqR, subR, chi, Try.f56] at o
        (try simp (maxSteps := 4000000) (disch := first | assumption | omega) only [go_sem, *, arr_all, Option.isSome_some, e, q5, o, ↓bin_eqI, ↓bin_neI, Nat.reduceAdd, Nat.reduceSub, Nat.reduceMul, Nat.reduceBEq, Nat.reduceLeDiff, Nat.reduceLT, Nat.reduceDiv, Nat.reduceMod]); repeat' ((first | with_reducible first | refine caK (fun hb => ?_) fun hb => ?_ | refine caG (fun hb => ?_) fun hb => ?_ | refine caP (fun hb => ?_) fun hb => ?_ | refine caH (fun hb => ?_) fun hb => ?_ | refine caQ (fun hb => ?_) fun hb => ?_ | refine ite_cases (fun hb => ?_) fun hb => ?_ | rw [drwK_ok rfl]) <;> try simp (maxSteps := 4000000) (disch := first | assumption | omega) only [go_sem, *, arr_all, Option.isSome_some, e, q5, o, ↓bin_eqI, ↓bin_neI, Nat.reduceAdd, Nat.reduceSub, Nat.reduceMul, Nat.reduceBEq, Nat.reduceLeDiff, Nat.reduceLT, Nat.reduceDiv, Nat.reduceMod])
      | none =>
        rw [hml] at ih
        obtain ⟨w, n', R', q1, q2, q5⟩ := ih
        refine ⟨w, _, ?_, .inr ⟨n', R', q1, by simp at g4 ⊢; omega, rfl⟩⟩
        clear q1 q2 g1 g3 g4 g5 hml hm hlen hk hT'
        simp only [hS, hT] at e ⊢
        refine fnL_run rfl N56 Try.func56 U56 ?_; have o := o56; simp only [OE, opsR, cqR, subR, chi, Try.f56] at o
        (try simp (maxSteps := 4000000) (disch := first | assumption | omega) only [go_sem, *, arr_all, Option.isSome_some, e, q5, o, ↓bin_eqI, ↓bin_neI, Nat.reduceAdd, Nat.reduceSub, Nat.reduceMul, Nat.reduceBEq, Nat.reduceLeDiff, Nat.reduceLT, Nat.reduceDiv, Nat.reduceMod]); repeat' ((first | with_reducible first | refine caK (fun hb => ?_) fun hb => ?_ | refine caG (fun hb => ?_) fun hb => ?_ | refine caP (fun hb => ?_) fun hb => ?_ | refine caH (fun hb => ?_) fun hb => ?_ | refine caQ (fun hb => ?_) fun hb => ?_ | refine ite_cases (fun hb => ?_) fun hb => ?_ | rw [drwK_ok rfl]) <;> try simp (maxSteps := 4000000) (disch := first | assumption | omega) only [go_sem, *, arr_all, Option.isSome_some, e, q5, o, ↓bin_eqI, ↓bin_neI, Nat.reduceAdd, Nat.reduceSub, Nat.reduceMul, Nat.reduceBEq, Nat.reduceLeDiff, Nat.reduceLT, Nat.reduceDiv, Nat.reduceMod])
    | cons p ps =>
      have ih := salt_loop1 s hs k (fun j hj => hT' j (by omega)) n2 a R g1 (by omega) (by omega) (by simp at g4 hlen; omega)
      cases hml : mAltL k (s.drop n2) with
      | some rest =>
        rw [hml] at ih
        obtain ⟨a', n', R', q1, q2, q3, q4, q5⟩ := ih
        refine ⟨a', n', R', ?_, q1, q2, ⟨by omega, by simp at g4 ⊢; omega⟩, by omega⟩
        clear q1 q2 q3 q4 g1 g3 g4 g5 hml hm hlen hk hT'
        simp only [hS, hT] at e ⊢
        refine fnL_run rfl N56 Try.func56 U56 ?_; have o := o56; simp only [OE, opsR, cqR, subR, chi, Try.f56] at o
        (try simp (maxSteps := 4000000) (disch := first | assumption | omega) only [go_sem, *, arr_all, Option.isSome_some, e, q5, o, ↓bin_eqI, ↓bin_neI, Nat.reduceAdd, Nat.reduceSub, Nat.reduceMul, Nat.reduceBEq, Nat.reduceLeDiff, Nat.reduceLT, Nat.reduceDiv, Nat.reduceMod]); repeat' ((first | with_reducible first | refine caK (fun hb => ?_) fun hb => ?_ | refine caG (fun hb => ?_) fun hb => ?_ | refine caP (fun hb => ?_) fun hb => ?_ | refine caH (fun hb => ?_) fun hb => ?_ | refine caQ (fun hb => ?_) fun hb => ?_ | refine ite_cases (fun hb => ?_) fun hb => ?_ | rw [drwK_ok rfl]) <;> try simp (maxSteps := 4000000) (disch := first | assumption | omega) only [go_sem, *, arr_all, Option.isSome_some, e, q5, o, ↓bin_eqI, ↓bin_neI, Nat.reduceAdd, Nat.reduceSub, Nat.reduceMul, Nat.reduceBEq, Nat.reduceLeDiff, Nat.reduceLT, Nat.reduceDiv, Nat.reduceMod])
      | none =>
        rw [hml] at ih
        obtain ⟨w, n', R', q1, q2, q5⟩ := ih
        refine ⟨w, _, ?_, .inr ⟨n', R', q1, by simp at g4 ⊢; omega, rfl⟩⟩
        clear q1 q2 g1 g3 g4 g5 hml hm hlen hk hT'
        simp only [hS, hT] at e ⊢
        refine fnL_run rfl N56 Try.func56 U56 ?_; have o := o56; simp only [OE, opsR, cqR, subR, chi, Try.f56] at o
        (try simp (maxSteps := 4000000) (disch := first | assumption | omega) only [go_sem, *, arr_all, Option.isSome_some, e, q5, o, ↓bin_eqI, ↓bin_neI, Nat.reduceAdd, Nat.reduceSub, Nat.reduceMul, Nat.reduceBEq, Nat.reduceLeDiff, Nat.reduceLT, Nat.reduceDiv, Nat.reduceMod]); repeat' ((first | with_reducible first | refine caK (fun hb => ?_) fun hb => ?_ | refine caG (fun hb => ?_) fun hb => ?_ | refine caP (fun hb => ?_) fun hb => ?_ | refine caH (fun hb => ?_) fun hb => ?_ | refine caQ (fun hb => ?_) fun hb => ?_ | refine ite_cases (fun hb => ?_) fun hb => ?_ | rw [drwK_ok rfl]) <;> try simp (maxSteps := 4000000) (disch := first | assumption | omega) only [go_sem, *, arr_all, Option.isSome_some, e, q5, o, ↓bin_eqI, ↓bin_neI, Nat.reduceAdd, Nat.reduceSub, Nat.reduceMul, Nat.reduceBEq, Nat.reduceLeDiff, Nat.reduceLT, Nat.reduceDiv, Nat.reduceMod])
theorem sall_of : ∀ (k : Nat), PIS 56 mAlt 1 6 k ∧ PIS 67 mRow 1 5 k ∧ PIS 78 mThing 0 4 k ∧ PIS 81 mBase 0 3 k := by
  intro k
  induction k using Nat.strongRecOn with
  | ind k ih =>
    cases k with
    | zero => exact ⟨fun s n R0 h hk => by omega, fun s n R0 h hk => by omega, fun s n R0 h hk => by omega, fun s n R0 h hk => by omega⟩
    | succ k =>
      exact ⟨salt_of k (fun j hj => (ih j hj).2.1), srow_of k (fun j hj => (ih j hj).2.2.1), smany_of k (ih k (by omega)).2.2.2, sthing_of k (ih k (by omega)).1⟩
theorem sreadPattern_ok : Reads 48 rdP := by
  intro s hs
  unfold rdP
  have : maxLen = 9223372036854775807 := rfl
  by_cases hlen : 1 ≤ (s.length : Int) ∧ (s.length : Int) ≤ 24
  · have hA := (sall_of 150).1 s 0 [] (by omega) (by omega) (by simp; omega) (by omega)
    rw [List.drop_zero] at hA
    simp only [decT hlen, Bool.true_and]
    cases hm : mAlt 150 s with
    | none =>
      rw [hm] at hA
      obtain ⟨w, bs, e, hbs⟩ := hA
      refine ⟨.v (.slice none 0 0), ?_⟩
      clear hm
      rcases hbs with ⟨n', rfl⟩ | ⟨n', R, z1, z2, rfl⟩
      all_goals
        simp only [hS, hT, Int.natCast_zero, Int.ofNat_zero] at e
        refine fnL_run rfl N48 Try.func48 U48 ?_; have o := o48; simp only [OE, opsR, cqR, subR, chi, Try.f48] at o
        (try simp (maxSteps := 4000000) (disch := first | assumption | omega) only [go_sem, *, arr_all, Option.isSome_some, e, in_ok, resOnes, B_empty, o, ↓bin_eqI, ↓bin_neI, Nat.reduceAdd, Nat.reduceSub, Nat.reduceMul, Nat.reduceBEq, Nat.reduceLeDiff, Nat.reduceLT, Nat.reduceDiv, Nat.reduceMod]); repeat' ((first | with_reducible first | refine caK (fun hb => ?_) fun hb => ?_ | refine caG (fun hb => ?_) fun hb => ?_ | refine caP (fun hb => ?_) fun hb => ?_ | refine caH (fun hb => ?_) fun hb => ?_ | refine caQ (fun hb => ?_) fun hb => ?_ | refine ite_cases (fun hb => ?_) fun hb => ?_ | rw [drwK_ok rfl]) <;> try simp (maxSteps := 4000000) (disch := first | assumption | omega) only [go_sem, *, arr_all, Option.isSome_some, e, in_ok, resOnes, B_empty, o, ↓bin_eqI, ↓bin_neI, Nat.reduceAdd, Nat.reduceSub, Nat.reduceMul, Nat.reduceBEq, Nat.reduceLeDiff, Nat.reduceLT, Nat.reduceDiv, Nat.reduceMod])
    | some r =>
      rw [hm] at hA
      obtain ⟨a, n, R, e, g1, g2, ⟨g3, g4⟩, g5⟩ := hA
      subst g2
      have ht : R.take R.length = R := List.take_of_length_le (Nat.le_refl _)
      clear hm g3 g4 g5
      by_cases hn : n < s.length
      · have he : (s.drop n).isEmpty = false := by
          rw [List.isEmpty_eq_false_iff, ne_eq, List.drop_eq_nil_iff]
          omega
        refine ⟨.v (.slice none 0 0), ?_⟩
        have hl2 : (n : Int) < (s.length : Int) := by omega
        simp only [he]
        simp only [hS, hT, Int.natCast_zero, Int.ofNat_zero] at e
        refine fnL_run rfl N48 Try.func48 U48 ?_; have o := o48; simp only [OE, opsR, cqR, subR, chi, Try.f48] at o
        (try simp (maxSteps := 4000000) (disch := first | assumption | omega) only [go_sem, *, arr_all, Option.isSome_some, e, in_ok, resOnes, hl2, o, ↓bin_eqI, ↓bin_neI, Nat.reduceAdd, Nat.reduceSub, Nat.reduceMul, Nat.reduceBEq, Nat.reduceLeDiff, Nat.reduceLT, Nat.reduceDiv, Nat.reduceMod]); repeat' ((first | with_reducible first | refine caK (fun hb => ?_) fun hb => ?_ | refine caG (fun hb => ?_) fun hb => ?_ | refine caP (fun hb => ?_) fun hb => ?_ | refine caH (fun hb => ?_) fun hb => ?_ | refine caQ (fun hb => ?_) fun hb => ?_ | refine ite_cases (fun hb => ?_) fun hb => ?_ | rw [drwK_ok rfl]) <;> try simp (maxSteps := 4000000) (disch := first | assumption | omega) only [go_sem, *, arr_all, Option.isSome_some, e, in_ok, resOnes, hl2, o, ↓bin_eqI, ↓bin_neI, Nat.reduceAdd, Nat.reduceSub, Nat.reduceMul, Nat.reduceBEq, Nat.reduceLeDiff, Nat.reduceLT, Nat.reduceDiv, Nat.reduceMod])
      · have he : (s.drop n).isEmpty = true := by
          rw [List.isEmpty_iff, List.drop_eq_nil_iff]
          omega
        refine ⟨.sl 3 R, ?_⟩
        have hl2 : ¬ (n : Int) < (s.length : Int) := by omega
        simp only [he]
        simp only [hS, hT, Int.natCast_zero, Int.ofNat_zero] at e
        refine fnL_run rfl N48 Try.func48 U48 ?_; have o := o48; simp only [OE, opsR, cqR, subR, chi, Try.f48] at o
        (try simp (maxSteps := 4000000) (disch := first | assumption | omega) only [go_sem, *, arr_all, Option.isSome_some, e, in_ok, resOnes, hl2, ht, o, ↓bin_eqI, ↓bin_neI, Nat.reduceAdd, Nat.reduceSub, Nat.reduceMul, Nat.reduceBEq, Nat.reduceLeDiff, Nat.reduceLT, Nat.reduceDiv, Nat.reduceMod]); repeat' ((first | with_reducible first | refine caK (fun hb => ?_) fun hb => ?_ | refine caG (fun hb => ?_) fun hb => ?_ | refine caP (fun hb => ?_) fun hb => ?_ | refine caH (fun hb => ?_) fun hb => ?_ | refine caQ (fun hb => ?_) fun hb => ?_ | refine ite_cases (fun hb => ?_) fun hb => ?_ | rw [drwK_ok rfl]) <;> try simp (maxSteps := 4000000) (disch := first | assumption | omega) only [go_sem, *, arr_all, Option.isSome_some, e, in_ok, resOnes, hl2, ht, o, ↓bin_eqI, ↓bin_neI, Nat.reduceAdd, Nat.reduceSub, Nat.reduceMul, Nat.reduceBEq, Nat.reduceLeDiff, Nat.reduceLT, Nat.reduceDiv, Nat.reduceMod])
  · refine ⟨.v (.slice none 0 0), ?_⟩
    simp only [decF hlen, Bool.false_and]
    refine fnL_run rfl N48 Try.func48 U48 ?_; have o := o48; simp only [OE, opsR, cqR, subR, chi, Try.f48] at o
    (try simp (maxSteps := 4000000) (disch := first | assumption | omega) only [go_sem, *, arr_all, Option.isSome_some, in_ok, resOnes, o, ↓bin_eqI, ↓bin_neI, Nat.reduceAdd, Nat.reduceSub, Nat.reduceMul, Nat.reduceBEq, Nat.reduceLeDiff, Nat.reduceLT, Nat.reduceDiv, Nat.reduceMod]); repeat' ((first | with_reducible first | refine caK (fun hb => ?_) fun hb => ?_ | refine caG (fun hb => ?_) fun hb => ?_ | refine caP (fun hb => ?_) fun hb => ?_ | refine caH (fun hb => ?_) fun hb => ?_ | refine caQ (fun hb => ?_) fun hb => ?_ | refine ite_cases (fun hb => ?_) fun hb => ?_ | rw [drwK_ok rfl]) <;> try simp (maxSteps := 4000000) (disch := first | assumption | omega) only [go_sem, *, arr_all, Option.isSome_some, in_ok, resOnes, o, ↓bin_eqI, ↓bin_neI, Nat.reduceAdd, Nat.reduceSub, Nat.reduceMul, Nat.reduceBEq, Nat.reduceLeDiff, Nat.reduceLT, Nat.reduceDiv, Nat.reduceMod])
end
end Go.Vsi
