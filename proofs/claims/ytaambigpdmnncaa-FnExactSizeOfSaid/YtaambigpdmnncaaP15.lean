/- What the functions of the program, of the reference and of the law do (a part of it). -/
import Derived.Test.YtaambigpdmnncaaP14
namespace Go.Vsi
open Go.Proofs
noncomputable section
set_option maxRecDepth 100000
set_option maxHeartbeats 4000000
set_option linter.unusedSimpArgs false
set_option linter.unusedVariables false
attribute [local go_sem] List.isEmpty_nil Bool.true_or Bool.and_true Bool.and_self Bool.false_eq_true Bool.not_true Bool.not_false List.set_cons_zero List.set_cons_succ frzSt wantedA evA constW ofVal plain oneOf noUp toVal cellVal putA startA List.length_cons List.length_nil List.map_cons List.map_nil List.replicate List.cons_append List.nil_append List.getElem?_cons_succ List.getElem?_cons_zero List.getElem?_toArray List.set upd Option.bind resA resOne giveA seenOf idsAt reach renH renW renV renS renB idsW idsV idsS frzW frzV frzS List.filter_nil List.range_zero List.flatMap_nil List.flatMap_cons List.append_nil List.range List.range.loop sliceLen intV List.length_map one partA ordOf canon junkBut List.elem_cons List.elem_nil Bool.false_or Bool.or_false Bool.or_true cond_true cond_false firstReg evL opTmps footA cut callOk List.all_nil List.all_cons Op.operands Array.toList List.filterMap_cons List.filterMap_nil lendCall ownCall lendVs lendV lendS plainW plainV plainS List.zipIdx_nil hpOf Array.toList_map idsB natBle beq_self_eq_true Int.toNat_natCast Option.map_some Option.map_none ix cellsV Nat.zero_add List.any_nil List.any_cons List.take_zero List.take_succ_cons List.take_nil List.drop_succ_cons List.drop_zero List.drop_nil toD toDs List.filter_cons Nat.zero_le Nat.le_refl frzH ite_true ite_false if_true if_false stpO_some opsO_nil opsO_cons stpD_some nthD_some drawO_nil drawO_cons decTrue decFalse callA natBeq decT decF B_size B_mk B_empty B_append B_extract decide_eq_true_eq Bool.not_eq_true' decide_eq_false_iff_not Bool.and_eq_true Bool.or_eq_true boundsA sliceA B_toList Bool.and_false Bool.false_and Bool.true_and backOf List.zipIdx_cons Option.getD_some Option.getD_none Nat.sub_self fillA rowsOf toRows List.flatten_cons List.flatten_nil appendA sliceRows lendSs capPtr opO_pick opO_move opO_assign opO_extract opO_nilCheck opO_unOp opO_binOp opO_convert opO_index opO_field opO_alloc opO_box opO_build opO_buildSlice opO_makeSlice opO_load opO_store opO_fieldAddr opO_indexAddr opO_slice opO_makeFunc opO_builtin opO_fn regK_some lopK_some lopK_ite map_get endA condK_true condK_false grdO_true grdO_false grdD_true grdD_false pickO_true pickO_false if_pos if_neg eqI_self eqI_t eqI_f true_and and_true and_self not_true_eq_false not_false_eq_true Bool.not_not Go.Call.operands closedB List.all_append List.filterMap_append Array.toList_append List.flatMap_append Bool.or_self List.getElem?_nil Bool.true_beq Bool.false_beq G68 I3 S3 C3 A3 B3 Try.underlying3 Z3 I4 S4 C4 A4 B4 Try.underlying4 Z4 I5 S5 C5 A5 B5 Try.underlying5 Z5 I9 S9 C9 A9 B9 Try.underlying9 Z9 I71 S71 C71 A71 B71 Try.underlying71 E71 Z71 I89 S89 C89 A89 B89 Try.underlying89 Z89 IX9 R68 M68 G81 I47 S47 C47 A47 B47 Try.underlying47 E47 Z47 I87 S87 C87 A87 B87 Try.underlying87 Z87 I92 S92 C92 A92 B92 Try.underlying92 Z92 I106 S106 C106 A106 B106 Try.underlying106 E106 Z106 H56 Y56 H68 Y68 H69 Y69 H86 Y86 H87 Y87 R81 M81
attribute [local go_sem ↓] ite_dec popK_nil popK_seq popK_seqE popK_seqR popK_blk popK_blkR popK_blkE endF_normal endF_ret q68_ q68_0 q68_1 q68_10 q68_11 q81_ q81_0 q81_1 q81_10 q81_100 q81_101 q81_1010 q81_10100 q81_10101 q81_101010 q81_101011 q81_1011 q81_11 q81_110 q81_111 q81_1110 q81_11100 q81_11101 q81_111010 q81_1110100 q81_1110101 q81_11101010 q81_111010100 q81_111010101 q81_1110101010 q81_1110101011 q81_11101011 q81_111010110 q81_111010111 q81_1110101110 q81_11101011100 q81_11101011101 q81_111010111010 q81_111010111011 q81_1110101111 q81_11101011110 q81_11101011111 q81_111010111110 q81_1110101111100 q81_1110101111101 q81_11101011111010 q81_11101011111011 q81_111010111111 q81_1110101111110 q81_1110101111111 q81_11101011111110 q81_111010111111100 q81_111010111111101 q81_11101011111111 q81_111010111111110 q81_111010111111111 q81_1110101111111110 q81_11101011111111100 q81_11101011111111101 q81_111010111111111010 q81_111010111111111011 q81_1110101111111110110 q81_11101011111111101100 q81_11101011111111101101 q81_111010111111111011010 q81_1110101111111110110100 q81_1110101111111110110101 q81_11101011111111101101010 q81_11101011111111101101011 q81_111010111111111011011 q81_1110101111111110111 q81_11101011111111101110 q81_11101011111111101111 q81_111010111111111011110 q81_111010111111111011111 q81_1110101111111111 q81_11101011111111110 q81_11101011111111111 q81_111010111111111110 q81_1110101111111111100 q81_1110101111111111101 q81_11101011111111111010 q81_111010111111111110100 q81_111010111111111110101 q81_1110101111111111101010 q81_11101011111111111010100 q81_11101011111111111010101 q81_111010111111111110101010 q81_111010111111111110101011 q81_1110101111111111101011 q81_11101011111111111011 q81_111010111111111111 q81_1110101111111111110 q81_1110101111111111111 q81_11101011111111111110 q81_111010111111111111100 q81_111010111111111111101 q81_1110101111111111111010 q81_1110101111111111111011 q81_11101011111111111111 q81_1111 q81_11110 q81_11111 q81_111110 q81_111111 bin_add bin_sub bin_mul bin_lss bin_leq bin_gtr bin_geq un_not min_int max_int wrap64' wrap_u8 wrap_i32 wrap64_byte wrap8_byte wrap32_byte bin_eqB bin_neB bin_addB LN9
theorem sis_ne (c : UInt8) (s : List UInt8) (n : Nat) (hn : n ≤ s.length) (hs : s.length ≤ 24) (R : List (List D)) (hR : 1 ≤ R.length) : fnL Try.prog T L0 68 [.c (.ptr 0 0 0), .c (.d (.v (.int .u8 ((c.toNat : Int)))))] [some (.var [.d (.v (.string (B (s)))), .d (.v (.int .i64 ((n : Int)))), .d (.v (.bool (false))), .arr 1 0 R.length]), some (.arr 3 R)] = some (.one (.c (.d (.v (.bool (nx c (s.drop n)))))), [some (.var [.d (.v (.string (B (s)))), .d (.v (.int .i64 ((n : Int)))), .d (.v (.bool (false))), .arr 1 0 R.length]), some (.arr 3 R)]) := by
  cases R with
  | nil => simp at hR
  | cons p ps => exact sis_ok c s n hn hs (p :: ps)
theorem sis_bad (c : Int) (s : List UInt8) (n : Nat) (R : List (List D)) : fnL Try.prog T L0 68 [.c (.ptr 0 0 0), .c (.d (.v (.int .u8 (c))))] (hS s n true R) = some (.one (.c (.d (.v (.bool (false))))), hS s n true R) := by
  cases R
  all_goals
    simp only [hS]
    refine fnL_run rfl N68 Try.func68 U68 ?_; have o := o68; simp only [OE, opsR, cqR, subR, chi, Try.f68] at o
    (try simp (maxSteps := 4000000) (disch := first | assumption | omega) only [go_sem, *, o, ↓bin_eqI, ↓bin_neI, Nat.reduceAdd, Nat.reduceSub, Nat.reduceMul, Nat.reduceBEq, Nat.reduceLeDiff, Nat.reduceLT, Nat.reduceDiv, Nat.reduceMod]); repeat' ((first | with_reducible first | refine caK (fun hb => ?_) fun hb => ?_ | refine caG (fun hb => ?_) fun hb => ?_ | refine caP (fun hb => ?_) fun hb => ?_ | refine caH (fun hb => ?_) fun hb => ?_ | refine caQ (fun hb => ?_) fun hb => ?_ | refine ite_cases (fun hb => ?_) fun hb => ?_ | rw [drwK_ok rfl]) <;> try simp (maxSteps := 4000000) (disch := first | assumption | omega) only [go_sem, *, o, ↓bin_eqI, ↓bin_neI, Nat.reduceAdd, Nat.reduceSub, Nat.reduceMul, Nat.reduceBEq, Nat.reduceLeDiff, Nat.reduceLT, Nat.reduceDiv, Nat.reduceMod])
theorem sis_nbad (c : Int) (s : List UInt8) (n : Nat) (R : List (List D)) (hR : 1 ≤ R.length) : fnL Try.prog T L0 68 [.c (.ptr 0 0 0), .c (.d (.v (.int .u8 (c))))] [some (.var [.d (.v (.string (B (s)))), .d (.v (.int .i64 ((n : Int)))), .d (.v (.bool (true))), .arr 1 0 R.length]), some (.arr 3 R)] = some (.one (.c (.d (.v (.bool (false))))), [some (.var [.d (.v (.string (B (s)))), .d (.v (.int .i64 ((n : Int)))), .d (.v (.bool (true))), .arr 1 0 R.length]), some (.arr 3 R)]) := by
  cases R with
  | nil => simp at hR
  | cons p ps => exact sis_bad c s n (p :: ps)
def GoodS (c : Nat) (s : List UInt8) (n : Nat) (R0 : List (List D)) (n' : Nat) (a : Nat) (R : List (List D)) : Prop :=
  (R0.length < R.length ∧ R.length + 2 * (s.length - n') + 1 ≤ R0.length + 2 * (s.length - n) + 2 * c) ∧ (s.length - n') + (1 - c) ≤ s.length - n
def PIS (f : FuncId) (m : Nat → List UInt8 → Option (List UInt8)) (c k0 k : Nat) : Prop := ∀ (s : List UInt8) (n : Nat) (R0 : List (List D)), n ≤ s.length → 6 * (s.length - n) + k0 ≤ k → R0.length + 2 * (s.length - n) ≤ 58 + (1 - c) → s.length ≤ 24 →
  AnsS s (R0.length + 2 * (s.length - n) + 2 * c + 1) R0 (fnL Try.prog T L0 f [.c (.ptr 0 0 0)] (hS s n false R0)) (GoodS c s n R0) (m k (s.drop n))
theorem convB (b : UInt8) : UInt8.ofNat b.toNat = b := by simp
theorem sthing_94 (k : Nat) (h : PIS 56 mAlt 1 6 k) (s : List UInt8) (n : Nat) (R0 : List (List D)) (hn : n ≤ s.length) (hk : 6 * (s.length - n) + 3 ≤ k + 1) (hlen : R0.length + 2 * (s.length - n) ≤ 58 + (1 - 0)) (hs : s.length ≤ 24) (hl : n < s.length) (c94 : (s[n].toNat : Int) = 94) : AnsS s (R0.length + 2 * (s.length - n) + 2 * 0 + 1) R0 (fnL Try.prog T L0 81 [.c (.ptr 0 0 0)] (hS s n false R0)) (GoodS 0 s n R0) (mBase (k + 1) (s.drop n)) := by
  have hi := ixAt s n hl
  have hl2 : ¬ (s.length : Int) ≤ (n : Int) := by omega
  have hl3 : (n : Int) < (s.length : Int) := by omega
  have ec1 : ((n + 1 : Nat) : Int) = (n : Int) + 1 := by omega
  have ec2 : ((n + 1 + 1 : Nat) : Int) = (n : Int) + 1 + 1 := by omega
  have hp := fun op t => sput_nil op t s (n + 1) false R0 (by omega)
  rw [List.drop_eq_getElem_cons hl]
  simp only [mBase, nx, List.drop_succ_cons, List.drop_zero, show ((94 : UInt8).toNat : Int) = 94 from rfl, show ((36 : UInt8).toNat : Int) = 36 from rfl, show ((46 : UInt8).toNat : Int) = 46 from rfl, show ((91 : UInt8).toNat : Int) = 91 from rfl, show ((40 : UInt8).toNat : Int) = 40 from rfl]
  generalize s[n] = b at hi c94 ⊢
  rw [c94] at hi
  simp only [c94, decide_true]
  refine ⟨R0.length, n + 1, R0 ++ [[.v (.int .i64 (10)), .v (.string (B ([]))), .v (.slice none 0 0)]], ?_, by omega, rfl, ⟨by simp, by simp; omega⟩, by omega⟩
  clear c94 hlen h
  cases R0
  all_goals
    simp only [hS, hT, ec1] at hp ⊢
    refine fnL_run rfl N81 Try.func81 U81 ?_; have o := o81; simp only [OE, opsR, cqR, subR, chi, Try.f81] at o
    (try simp (maxSteps := 4000000) (disch := first | assumption | omega) only [go_sem, *, arr_all, Option.isSome_some, hi, hl2, hl3, hp, B_empty, List.length_append, o, ↓bin_eqI, ↓bin_neI, Nat.reduceAdd, Nat.reduceSub, Nat.reduceMul, Nat.reduceBEq, Nat.reduceLeDiff, Nat.reduceLT, Nat.reduceDiv, Nat.reduceMod]); repeat' ((first | with_reducible first | refine caK (fun hb => ?_) fun hb => ?_ | refine caG (fun hb => ?_) fun hb => ?_ | refine caP (fun hb => ?_) fun hb => ?_ | refine caH (fun hb => ?_) fun hb => ?_ | refine caQ (fun hb => ?_) fun hb => ?_ | refine ite_cases (fun hb => ?_) fun hb => ?_ | rw [drwK_ok rfl]) <;> try simp (maxSteps := 4000000) (disch := first | assumption | omega) only [go_sem, *, arr_all, Option.isSome_some, hi, hl2, hl3, hp, B_empty, List.length_append, o, ↓bin_eqI, ↓bin_neI, Nat.reduceAdd, Nat.reduceSub, Nat.reduceMul, Nat.reduceBEq, Nat.reduceLeDiff, Nat.reduceLT, Nat.reduceDiv, Nat.reduceMod])
theorem sthing_36 (k : Nat) (h : PIS 56 mAlt 1 6 k) (s : List UInt8) (n : Nat) (R0 : List (List D)) (hn : n ≤ s.length) (hk : 6 * (s.length - n) + 3 ≤ k + 1) (hlen : R0.length + 2 * (s.length - n) ≤ 58 + (1 - 0)) (hs : s.length ≤ 24) (hl : n < s.length) (c94 : ¬ (s[n].toNat : Int) = 94) (c36 : (s[n].toNat : Int) = 36) : AnsS s (R0.length + 2 * (s.length - n) + 2 * 0 + 1) R0 (fnL Try.prog T L0 81 [.c (.ptr 0 0 0)] (hS s n false R0)) (GoodS 0 s n R0) (mBase (k + 1) (s.drop n)) := by
  have hi := ixAt s n hl
  have hl2 : ¬ (s.length : Int) ≤ (n : Int) := by omega
  have hl3 : (n : Int) < (s.length : Int) := by omega
  have ec1 : ((n + 1 : Nat) : Int) = (n : Int) + 1 := by omega
  have ec2 : ((n + 1 + 1 : Nat) : Int) = (n : Int) + 1 + 1 := by omega
  have hp := fun op t => sput_nil op t s (n + 1) false R0 (by omega)
  rw [List.drop_eq_getElem_cons hl]
  simp only [mBase, nx, List.drop_succ_cons, List.drop_zero, show ((94 : UInt8).toNat : Int) = 94 from rfl, show ((36 : UInt8).toNat : Int) = 36 from rfl, show ((46 : UInt8).toNat : Int) = 46 from rfl, show ((91 : UInt8).toNat : Int) = 91 from rfl, show ((40 : UInt8).toNat : Int) = 40 from rfl]
  generalize s[n] = b at hi c94 c36 ⊢
  have q94 : eqI (b.toNat : Int) 94 = false := by simp [eqI, c94]
  simp only [decF c94]
  clear c94
  rw [c36] at hi
  simp only [c36, decide_true]
  refine ⟨R0.length, n + 1, R0 ++ [[.v (.int .i64 (11)), .v (.string (B ([]))), .v (.slice none 0 0)]], ?_, by omega, rfl, ⟨by simp, by simp; omega⟩, by omega⟩
  clear c36 hlen h
  cases R0
  all_goals
    simp only [hS, hT, ec1] at hp ⊢
    refine fnL_run rfl N81 Try.func81 U81 ?_; have o := o81; simp only [OE, opsR, cqR, subR, chi, Try.f81] at o
    (try simp (maxSteps := 4000000) (disch := first | assumption | omega) only [go_sem, *, arr_all, Option.isSome_some, hi, hl2, hl3, hp, B_empty, List.length_append, o, ↓bin_eqI, ↓bin_neI, Nat.reduceAdd, Nat.reduceSub, Nat.reduceMul, Nat.reduceBEq, Nat.reduceLeDiff, Nat.reduceLT, Nat.reduceDiv, Nat.reduceMod]); repeat' ((first | with_reducible first | refine caK (fun hb => ?_) fun hb => ?_ | refine caG (fun hb => ?_) fun hb => ?_ | refine caP (fun hb => ?_) fun hb => ?_ | refine caH (fun hb => ?_) fun hb => ?_ | refine caQ (fun hb => ?_) fun hb => ?_ | refine ite_cases (fun hb => ?_) fun hb => ?_ | rw [drwK_ok rfl]) <;> try simp (maxSteps := 4000000) (disch := first | assumption | omega) only [go_sem, *, arr_all, Option.isSome_some, hi, hl2, hl3, hp, B_empty, List.length_append, o, ↓bin_eqI, ↓bin_neI, Nat.reduceAdd, Nat.reduceSub, Nat.reduceMul, Nat.reduceBEq, Nat.reduceLeDiff, Nat.reduceLT, Nat.reduceDiv, Nat.reduceMod])
theorem sthing_46 (k : Nat) (h : PIS 56 mAlt 1 6 k) (s : List UInt8) (n : Nat) (R0 : List (List D)) (hn : n ≤ s.length) (hk : 6 * (s.length - n) + 3 ≤ k + 1) (hlen : R0.length + 2 * (s.length - n) ≤ 58 + (1 - 0)) (hs : s.length ≤ 24) (hl : n < s.length) (c94 : ¬ (s[n].toNat : Int) = 94) (c36 : ¬ (s[n].toNat : Int) = 36) (c46 : (s[n].toNat : Int) = 46) : AnsS s (R0.length + 2 * (s.length - n) + 2 * 0 + 1) R0 (fnL Try.prog T L0 81 [.c (.ptr 0 0 0)] (hS s n false R0)) (GoodS 0 s n R0) (mBase (k + 1) (s.drop n)) := by
  have hi := ixAt s n hl
  have hl2 : ¬ (s.length : Int) ≤ (n : Int) := by omega
  have hl3 : (n : Int) < (s.length : Int) := by omega
  have ec1 : ((n + 1 : Nat) : Int) = (n : Int) + 1 := by omega
  have ec2 : ((n + 1 + 1 : Nat) : Int) = (n : Int) + 1 + 1 := by omega
  have hp := fun op t => sput_nil op t s (n + 1) false R0 (by omega)
  rw [List.drop_eq_getElem_cons hl]
  simp only [mBase, nx, List.drop_succ_cons, List.drop_zero, show ((94 : UInt8).toNat : Int) = 94 from rfl, show ((36 : UInt8).toNat : Int) = 36 from rfl, show ((46 : UInt8).toNat : Int) = 46 from rfl, show ((91 : UInt8).toNat : Int) = 91 from rfl, show ((40 : UInt8).toNat : Int) = 40 from rfl]
  generalize s[n] = b at hi c94 c36 c46 ⊢
  have q94 : eqI (b.toNat : Int) 94 = false := by simp [eqI, c94]
  simp only [decF c94]
  clear c94
  have q36 : eqI (b.toNat : Int) 36 = false := by simp [eqI, c36]
  simp only [decF c36]
  clear c36
  rw [c46] at hi
  simp only [c46, decide_true]
  refine ⟨R0.length, n + 1, R0 ++ [[.v (.int .i64 (2)), .v (.string (B ([]))), .v (.slice none 0 0)]], ?_, by omega, rfl, ⟨by simp, by simp; omega⟩, by omega⟩
  clear c46 hlen h
  cases R0
  all_goals
    simp only [hS, hT, ec1] at hp ⊢
    refine fnL_run rfl N81 Try.func81 U81 ?_; have o := o81; simp only [OE, opsR, cqR, subR, chi, Try.f81] at o
    (try simp (maxSteps := 4000000) (disch := first | assumption | omega) only [go_sem, *, arr_all, Option.isSome_some, hi, hl2, hl3, hp, B_empty, List.length_append, o, ↓bin_eqI, ↓bin_neI, Nat.reduceAdd, Nat.reduceSub, Nat.reduceMul, Nat.reduceBEq, Nat.reduceLeDiff, Nat.reduceLT, Nat.reduceDiv, Nat.reduceMod]); repeat' ((first | with_reducible first | refine caK (fun hb => ?_) fun hb => ?_ | refine caG (fun hb => ?_) fun hb => ?_ | refine caP (fun hb => ?_) fun hb => ?_ | refine caH (fun hb => ?_) fun hb => ?_ | refine caQ (fun hb => ?_) fun hb => ?_ | refine ite_cases (fun hb => ?_) fun hb => ?_ | rw [drwK_ok rfl]) <;> try simp (maxSteps := 4000000) (disch := first | assumption | omega) only [go_sem, *, arr_all, Option.isSome_some, hi, hl2, hl3, hp, B_empty, List.length_append, o, ↓bin_eqI, ↓bin_neI, Nat.reduceAdd, Nat.reduceSub, Nat.reduceMul, Nat.reduceBEq, Nat.reduceLeDiff, Nat.reduceLT, Nat.reduceDiv, Nat.reduceMod])
theorem sthing_91a (k : Nat) (h : PIS 56 mAlt 1 6 k) (s : List UInt8) (n : Nat) (R0 : List (List D)) (hn : n ≤ s.length) (hk : 6 * (s.length - n) + 3 ≤ k + 1) (hlen : R0.length + 2 * (s.length - n) ≤ 58 + (1 - 0)) (hs : s.length ≤ 24) (hl : n < s.length) (c94 : ¬ (s[n].toNat : Int) = 94) (c36 : ¬ (s[n].toNat : Int) = 36) (c46 : ¬ (s[n].toNat : Int) = 46) (c91 : (s[n].toNat : Int) = 91) (hm : mSet (s.drop (n + 1)) = none) : AnsS s (R0.length + 2 * (s.length - n) + 2 * 0 + 1) R0 (fnL Try.prog T L0 81 [.c (.ptr 0 0 0)] (hS s n false R0)) (GoodS 0 s n R0) (mBase (k + 1) (s.drop n)) := by
  have hi := ixAt s n hl
  have hl2 : ¬ (s.length : Int) ≤ (n : Int) := by omega
  have hl3 : (n : Int) < (s.length : Int) := by omega
  have ec1 : ((n + 1 : Nat) : Int) = (n : Int) + 1 := by omega
  have ec2 : ((n + 1 + 1 : Nat) : Int) = (n : Int) + 1 + 1 := by omega
  have hset := sset_ok (R0.length + 2 * (s.length - n) + 2 * 0 + 1) s n R0 hl hs (by omega)
  rw [List.drop_eq_getElem_cons hl]
  simp only [mBase, nx, List.drop_succ_cons, List.drop_zero, show ((94 : UInt8).toNat : Int) = 94 from rfl, show ((36 : UInt8).toNat : Int) = 36 from rfl, show ((46 : UInt8).toNat : Int) = 46 from rfl, show ((91 : UInt8).toNat : Int) = 91 from rfl, show ((40 : UInt8).toNat : Int) = 40 from rfl]
  generalize s[n] = b at hi c94 c36 c46 c91 ⊢
  have q94 : eqI (b.toNat : Int) 94 = false := by simp [eqI, c94]
  simp only [decF c94]
  clear c94
  have q36 : eqI (b.toNat : Int) 36 = false := by simp [eqI, c36]
  simp only [decF c36]
  clear c36
  have q46 : eqI (b.toNat : Int) 46 = false := by simp [eqI, c46]
  simp only [decF c46]
  clear c46
  rw [c91] at hi
  simp only [c91, decide_true, hm]
  rw [hm] at hset
  obtain ⟨w, bs, e, hbs⟩ := hset
  refine ⟨w, bs, ?_, hbs⟩
  clear hm hlen h c91
  rcases hbs with ⟨n', rfl⟩ | ⟨n', R, z1, z2, rfl⟩
  all_goals
    cases R0
    all_goals
      simp only [hS, hT] at e ⊢
      refine fnL_run rfl N81 Try.func81 U81 ?_; have o := o81; simp only [OE, opsR, cqR, subR, chi, Try.f81] at o
      (try simp (maxSteps := 4000000) (disch := first | assumption | omega) only [go_sem, *, arr_all, Option.isSome_some, hi, hl2, hl3, e, o, ↓bin_eqI, ↓bin_neI, Nat.reduceAdd, Nat.reduceSub, Nat.reduceMul, Nat.reduceBEq, Nat.reduceLeDiff, Nat.reduceLT, Nat.reduceDiv, Nat.reduceMod]); repeat' ((first | with_reducible first | refine caK (fun hb => ?_) fun hb => ?_ | refine caG (fun hb => ?_) fun hb => ?_ | refine caP (fun hb => ?_) fun hb => ?_ | refine caH (fun hb => ?_) fun hb => ?_ | refine caQ (fun hb => ?_) fun hb => ?_ | refine ite_cases (fun hb => ?_) fun hb => ?_ | rw [drwK_ok rfl]) <;> try simp (maxSteps := 4000000) (disch := first | assumption | omega) only [go_sem, *, arr_all, Option.isSome_some, hi, hl2, hl3, e, o, ↓bin_eqI, ↓bin_neI, Nat.reduceAdd, Nat.reduceSub, Nat.reduceMul, Nat.reduceBEq, Nat.reduceLeDiff, Nat.reduceLT, Nat.reduceDiv, Nat.reduceMod])
theorem sthing_91b (k : Nat) (h : PIS 56 mAlt 1 6 k) (s : List UInt8) (n : Nat) (R0 : List (List D)) (hn : n ≤ s.length) (hk : 6 * (s.length - n) + 3 ≤ k + 1) (hlen : R0.length + 2 * (s.length - n) ≤ 58 + (1 - 0)) (hs : s.length ≤ 24) (hl : n < s.length) (c94 : ¬ (s[n].toNat : Int) = 94) (c36 : ¬ (s[n].toNat : Int) = 36) (c46 : ¬ (s[n].toNat : Int) = 46) (c91 : (s[n].toNat : Int) = 91) (rest : List UInt8) (hm : mSet (s.drop (n + 1)) = some rest) : AnsS s (R0.length + 2 * (s.length - n) + 2 * 0 + 1) R0 (fnL Try.prog T L0 81 [.c (.ptr 0 0 0)] (hS s n false R0)) (GoodS 0 s n R0) (mBase (k + 1) (s.drop n)) := by
  have hi := ixAt s n hl
  have hl2 : ¬ (s.length : Int) ≤ (n : Int) := by omega
  have hl3 : (n : Int) < (s.length : Int) := by omega
  have ec1 : ((n + 1 : Nat) : Int) = (n : Int) + 1 := by omega
  have ec2 : ((n + 1 + 1 : Nat) : Int) = (n : Int) + 1 + 1 := by omega
  have hset := sset_ok (R0.length + 2 * (s.length - n) + 2 * 0 + 1) s n R0 hl hs (by omega)
  rw [List.drop_eq_getElem_cons hl]
  simp only [mBase, nx, List.drop_succ_cons, List.drop_zero, show ((94 : UInt8).toNat : Int) = 94 from rfl, show ((36 : UInt8).toNat : Int) = 36 from rfl, show ((46 : UInt8).toNat : Int) = 46 from rfl, show ((91 : UInt8).toNat : Int) = 91 from rfl, show ((40 : UInt8).toNat : Int) = 40 from rfl]
  generalize s[n] = b at hi c94 c36 c46 c91 ⊢
  have q94 : eqI (b.toNat : Int) 94 = false := by simp [eqI, c94]
  simp only [decF c94]
  clear c94
  have q36 : eqI (b.toNat : Int) 36 = false := by simp [eqI, c36]
  simp only [decF c36]
  clear c36
  have q46 : eqI (b.toNat : Int) 46 = false := by simp [eqI, c46]
  simp only [decF c46]
  clear c46
  rw [c91] at hi
  simp only [c91, decide_true, hm]
  rw [hm] at hset
  obtain ⟨a, n', R, e, g1, g2, g3, g4, g5⟩ := hset
  refine ⟨a, n', R, ?_, g1, g2, ⟨by omega, by omega⟩, by omega⟩
  clear hm hlen g1 g2 g3 g4 g5 h c91
  cases R0
  all_goals
    simp only [hS, hT] at e ⊢
    refine fnL_run rfl N81 Try.func81 U81 ?_; have o := o81; simp only [OE, opsR, cqR, subR, chi, Try.f81] at o
    (try simp (maxSteps := 4000000) (disch := first | assumption | omega) only [go_sem, *, arr_all, Option.isSome_some, hi, hl2, hl3, e, o, ↓bin_eqI, ↓bin_neI, Nat.reduceAdd, Nat.reduceSub, Nat.reduceMul, Nat.reduceBEq, Nat.reduceLeDiff, Nat.reduceLT, Nat.reduceDiv, Nat.reduceMod]); repeat' ((first | with_reducible first | refine caK (fun hb => ?_) fun hb => ?_ | refine caG (fun hb => ?_) fun hb => ?_ | refine caP (fun hb => ?_) fun hb => ?_ | refine caH (fun hb => ?_) fun hb => ?_ | refine caQ (fun hb => ?_) fun hb => ?_ | refine ite_cases (fun hb => ?_) fun hb => ?_ | rw [drwK_ok rfl]) <;> try simp (maxSteps := 4000000) (disch := first | assumption | omega) only [go_sem, *, arr_all, Option.isSome_some, hi, hl2, hl3, e, o, ↓bin_eqI, ↓bin_neI, Nat.reduceAdd, Nat.reduceSub, Nat.reduceMul, Nat.reduceBEq, Nat.reduceLeDiff, Nat.reduceLT, Nat.reduceDiv, Nat.reduceMod])
end
end Go.Vsi
