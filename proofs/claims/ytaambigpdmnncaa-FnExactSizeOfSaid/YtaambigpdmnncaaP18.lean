/- What the functions of the program, of the reference and of the law do (a part of it). -/
import Derived.Test.YtaambigpdmnncaaP16
import Derived.Test.YtaambigpdmnncaaP17
import Derived.Test.YtaambigpdmnncaaP21
namespace Go.Vsi
open Go.Proofs
noncomputable section
set_option maxRecDepth 100000
set_option maxHeartbeats 4000000
set_option linter.unusedSimpArgs false
set_option linter.unusedVariables false
attribute [local go_sem] List.isEmpty_nil Bool.true_or Bool.and_true Bool.and_self Bool.false_eq_true Bool.not_true Bool.not_false List.set_cons_zero List.set_cons_succ frzSt wantedA evA constW ofVal plain oneOf noUp toVal cellVal putA startA List.length_cons List.length_nil List.map_cons List.map_nil List.replicate List.cons_append List.nil_append List.getElem?_cons_succ List.getElem?_cons_zero List.getElem?_toArray List.set upd Option.bind resA resOne giveA seenOf idsAt reach renH renW renV renS renB idsW idsV idsS frzW frzV frzS List.filter_nil List.range_zero List.flatMap_nil List.flatMap_cons List.append_nil List.range List.range.loop sliceLen intV List.length_map one partA ordOf canon junkBut List.elem_cons List.elem_nil Bool.false_or Bool.or_false Bool.or_true cond_true cond_false firstReg evL opTmps footA cut callOk List.all_nil List.all_cons Op.operands Array.toList List.filterMap_cons List.filterMap_nil lendCall ownCall lendVs lendV lendS plainW plainV plainS List.zipIdx_nil hpOf Array.toList_map idsB natBle beq_self_eq_true Int.toNat_natCast Option.map_some Option.map_none ix cellsV Nat.zero_add List.any_nil List.any_cons List.take_zero List.take_succ_cons List.take_nil List.drop_succ_cons List.drop_zero List.drop_nil toD toDs List.filter_cons Nat.zero_le Nat.le_refl frzH ite_true ite_false if_true if_false stpO_some opsO_nil opsO_cons stpD_some nthD_some drawO_nil drawO_cons decTrue decFalse callA natBeq decT decF B_size B_mk B_empty B_append B_extract decide_eq_true_eq Bool.not_eq_true' decide_eq_false_iff_not Bool.and_eq_true Bool.or_eq_true boundsA sliceA B_toList Bool.and_false Bool.false_and Bool.true_and backOf List.zipIdx_cons Option.getD_some Option.getD_none Nat.sub_self fillA rowsOf toRows List.flatten_cons List.flatten_nil appendA sliceRows lendSs capPtr opO_pick opO_move opO_assign opO_extract opO_nilCheck opO_unOp opO_binOp opO_convert opO_index opO_field opO_alloc opO_box opO_build opO_buildSlice opO_makeSlice opO_load opO_store opO_fieldAddr opO_indexAddr opO_slice opO_makeFunc opO_builtin opO_fn regK_some lopK_some lopK_ite map_get endA condK_true condK_false grdO_true grdO_false grdD_true grdD_false pickO_true pickO_false if_pos if_neg eqI_self eqI_t eqI_f true_and and_true and_self not_true_eq_false not_false_eq_true Bool.not_not Go.Call.operands closedB List.all_append List.filterMap_append Array.toList_append List.flatMap_append Bool.or_self List.getElem?_nil Bool.true_beq Bool.false_beq G81 I3 S3 C3 A3 B3 Try.underlying3 Z3 I4 S4 C4 A4 B4 Try.underlying4 Z4 I5 S5 C5 A5 B5 Try.underlying5 Z5 I9 S9 C9 A9 B9 Try.underlying9 Z9 I47 S47 C47 A47 B47 Try.underlying47 E47 Z47 I71 S71 C71 A71 B71 Try.underlying71 E71 Z71 I87 S87 C87 A87 B87 Try.underlying87 Z87 I89 S89 C89 A89 B89 Try.underlying89 Z89 I92 S92 C92 A92 B92 Try.underlying92 Z92 I106 S106 C106 A106 B106 Try.underlying106 E106 Z106 H56 Y56 H68 Y68 H69 Y69 H86 Y86 H87 Y87 IX9 R81 M81 G69 R69 M69 G78 K78_2 O78_2 H81 Y81 R78 M78
attribute [local go_sem ↓] ite_dec popK_nil popK_seq popK_seqE popK_seqR popK_blk popK_blkR popK_blkE endF_normal endF_ret q81_ q81_0 q81_1 q81_10 q81_100 q81_101 q81_1010 q81_10100 q81_10101 q81_101010 q81_101011 q81_1011 q81_11 q81_110 q81_111 q81_1110 q81_11100 q81_11101 q81_111010 q81_1110100 q81_1110101 q81_11101010 q81_111010100 q81_111010101 q81_1110101010 q81_1110101011 q81_11101011 q81_111010110 q81_111010111 q81_1110101110 q81_11101011100 q81_11101011101 q81_111010111010 q81_111010111011 q81_1110101111 q81_11101011110 q81_11101011111 q81_111010111110 q81_1110101111100 q81_1110101111101 q81_11101011111010 q81_11101011111011 q81_111010111111 q81_1110101111110 q81_1110101111111 q81_11101011111110 q81_111010111111100 q81_111010111111101 q81_11101011111111 q81_111010111111110 q81_111010111111111 q81_1110101111111110 q81_11101011111111100 q81_11101011111111101 q81_111010111111111010 q81_111010111111111011 q81_1110101111111110110 q81_11101011111111101100 q81_11101011111111101101 q81_111010111111111011010 q81_1110101111111110110100 q81_1110101111111110110101 q81_11101011111111101101010 q81_11101011111111101101011 q81_111010111111111011011 q81_1110101111111110111 q81_11101011111111101110 q81_11101011111111101111 q81_111010111111111011110 q81_111010111111111011111 q81_1110101111111111 q81_11101011111111110 q81_11101011111111111 q81_111010111111111110 q81_1110101111111111100 q81_1110101111111111101 q81_11101011111111111010 q81_111010111111111110100 q81_111010111111111110101 q81_1110101111111111101010 q81_11101011111111111010100 q81_11101011111111111010101 q81_111010111111111110101010 q81_111010111111111110101011 q81_1110101111111111101011 q81_11101011111111111011 q81_111010111111111111 q81_1110101111111111110 q81_1110101111111111111 q81_11101011111111111110 q81_111010111111111111100 q81_111010111111111111101 q81_1110101111111111111010 q81_1110101111111111111011 q81_11101011111111111111 q81_1111 q81_11110 q81_11111 q81_111110 q81_111111 q69_ q69_0 q69_1 q69_10 q69_11 q69_110 q69_1100 q69_1101 q69_11010 q69_11011 q69_111 q69_1110 q69_1111 q78_ q78_0 q78_1 q78_10 q78_11 q78_110 q78_1100 q78_11000 q78_110000 q78_1100000 q78_1100001 q78_11000010 q78_11000011 q78_110001 q78_1100010 q78_11000100 q78_11000101 q78_110001010 q78_1100010100 q78_1100010101 q78_11000101010 q78_11000101011 q78_110001011 q78_1100010110 q78_11000101100 q78_11000101101 q78_110001011010 q78_110001011011 q78_1100010111 q78_11000101110 q78_11000101111 q78_111 q78_1110 q78_1111 bin_add bin_sub bin_mul bin_lss bin_leq bin_gtr bin_geq un_not min_int max_int wrap64' wrap_u8 wrap_i32 wrap64_byte wrap8_byte wrap32_byte bin_eqB bin_neB bin_addB LN9
theorem sthing_db (k : Nat) (h : PIS 56 mAlt 1 6 k) (s : List UInt8) (n : Nat) (R0 : List (List D)) (hn : n ≤ s.length) (hk : 6 * (s.length - n) + 3 ≤ k + 1) (hlen : R0.length + 2 * (s.length - n) ≤ 58 + (1 - 0)) (hs : s.length ≤ 24) (hl : n < s.length) (c94 : ¬ (s[n].toNat : Int) = 94) (c36 : ¬ (s[n].toNat : Int) = 36) (c46 : ¬ (s[n].toNat : Int) = 46) (c91 : ¬ (s[n].toNat : Int) = 91) (c40 : ¬ (s[n].toNat : Int) = 40) (c92 : ¬ (s[n].toNat : Int) = 92) (hsp : spec s[n] = true) : AnsS s (R0.length + 2 * (s.length - n) + 2 * 0 + 1) R0 (fnL Try.prog T L0 81 [.c (.ptr 0 0 0)] (hS s n false R0)) (GoodS 0 s n R0) (mBase (k + 1) (s.drop n)) := by
  have hi := ixAt s n hl
  have hl2 : ¬ (s.length : Int) ≤ (n : Int) := by omega
  have hl3 : (n : Int) < (s.length : Int) := by omega
  have ec1 : ((n + 1 : Nat) : Int) = (n : Int) + 1 := by omega
  have ec2 : ((n + 1 + 1 : Nat) : Int) = (n : Int) + 1 + 1 := by omega
  rw [List.drop_eq_getElem_cons hl]
  simp only [mBase, nx, List.drop_succ_cons, List.drop_zero, show ((94 : UInt8).toNat : Int) = 94 from rfl, show ((36 : UInt8).toNat : Int) = 36 from rfl, show ((46 : UInt8).toNat : Int) = 46 from rfl, show ((91 : UInt8).toNat : Int) = 91 from rfl, show ((40 : UInt8).toNat : Int) = 40 from rfl]
  generalize s[n] = b at hi c94 c36 c46 c91 c40 c92 hsp ⊢
  have q94 : eqI (b.toNat : Int) 94 = false := by simp [eqI, c94]
  simp only [decF c94]
  clear c94
  have q36 : eqI (b.toNat : Int) 36 = false := by simp [eqI, c36]
  simp only [decF c36]
  clear c36
  have q46 : eqI (b.toNat : Int) 46 = false := by simp [eqI, c46]
  simp only [decF c46]
  clear c46
  have q91 : eqI (b.toNat : Int) 91 = false := by simp [eqI, c91]
  simp only [decF c91]
  clear c91
  have q40 : eqI (b.toNat : Int) 40 = false := by simp [eqI, c40]
  simp only [decF c40]
  clear c40
  have q92 : eqI (b.toNat : Int) 92 = false := by simp [eqI, c92]
  simp only [mSingle, if_neg c92]
  clear c92
  have hd := l04Special_ok b
  rw [show (signs.any fun c => decide ((c.toNat : Int) = (b.toNat : Int))) = spec b from rfl, hsp] at hd
  simp only [hsp]
  clear hsp h
  simp only [if_true]
  refine ⟨0, hS s n true R0, ?_, .inl ⟨_, rfl⟩⟩
  clear hlen
  cases R0
  all_goals
    simp only [hS, hT]
    refine fnL_run rfl N81 Try.func81 U81 ?_; have o := o81; simp only [OE, opsR, cqR, subR, chi, Try.f81] at o
    (try simp (maxSteps := 4000000) (disch := first | assumption | omega) only [go_sem, *, arr_all, Option.isSome_some, hi, hl2, hl3, hd, o, ↓bin_eqI, ↓bin_neI, Nat.reduceAdd, Nat.reduceSub, Nat.reduceMul, Nat.reduceBEq, Nat.reduceLeDiff, Nat.reduceLT, Nat.reduceDiv, Nat.reduceMod]); repeat' ((first | with_reducible first | refine caK (fun hb => ?_) fun hb => ?_ | refine caG (fun hb => ?_) fun hb => ?_ | refine caP (fun hb => ?_) fun hb => ?_ | refine caH (fun hb => ?_) fun hb => ?_ | refine caQ (fun hb => ?_) fun hb => ?_ | refine ite_cases (fun hb => ?_) fun hb => ?_ | rw [drwK_ok rfl]) <;> try simp (maxSteps := 4000000) (disch := first | assumption | omega) only [go_sem, *, arr_all, Option.isSome_some, hi, hl2, hl3, hd, o, ↓bin_eqI, ↓bin_neI, Nat.reduceAdd, Nat.reduceSub, Nat.reduceMul, Nat.reduceBEq, Nat.reduceLeDiff, Nat.reduceLT, Nat.reduceDiv, Nat.reduceMod])
theorem sthing_dc (k : Nat) (h : PIS 56 mAlt 1 6 k) (s : List UInt8) (n : Nat) (R0 : List (List D)) (hn : n ≤ s.length) (hk : 6 * (s.length - n) + 3 ≤ k + 1) (hlen : R0.length + 2 * (s.length - n) ≤ 58 + (1 - 0)) (hs : s.length ≤ 24) (hl : n < s.length) (c94 : ¬ (s[n].toNat : Int) = 94) (c36 : ¬ (s[n].toNat : Int) = 36) (c46 : ¬ (s[n].toNat : Int) = 46) (c91 : ¬ (s[n].toNat : Int) = 91) (c40 : ¬ (s[n].toNat : Int) = 40) (c92 : ¬ (s[n].toNat : Int) = 92) (hsp : spec s[n] = false) : AnsS s (R0.length + 2 * (s.length - n) + 2 * 0 + 1) R0 (fnL Try.prog T L0 81 [.c (.ptr 0 0 0)] (hS s n false R0)) (GoodS 0 s n R0) (mBase (k + 1) (s.drop n)) := by
  have hi := ixAt s n hl
  have hl2 : ¬ (s.length : Int) ≤ (n : Int) := by omega
  have hl3 : (n : Int) < (s.length : Int) := by omega
  have ec1 : ((n + 1 : Nat) : Int) = (n : Int) + 1 := by omega
  have ec2 : ((n + 1 + 1 : Nat) : Int) = (n : Int) + 1 + 1 := by omega
  rw [List.drop_eq_getElem_cons hl]
  simp only [mBase, nx, List.drop_succ_cons, List.drop_zero, show ((94 : UInt8).toNat : Int) = 94 from rfl, show ((36 : UInt8).toNat : Int) = 36 from rfl, show ((46 : UInt8).toNat : Int) = 46 from rfl, show ((91 : UInt8).toNat : Int) = 91 from rfl, show ((40 : UInt8).toNat : Int) = 40 from rfl]
  generalize s[n] = b at hi c94 c36 c46 c91 c40 c92 hsp ⊢
  have q94 : eqI (b.toNat : Int) 94 = false := by simp [eqI, c94]
  simp only [decF c94]
  clear c94
  have q36 : eqI (b.toNat : Int) 36 = false := by simp [eqI, c36]
  simp only [decF c36]
  clear c36
  have q46 : eqI (b.toNat : Int) 46 = false := by simp [eqI, c46]
  simp only [decF c46]
  clear c46
  have q91 : eqI (b.toNat : Int) 91 = false := by simp [eqI, c91]
  simp only [decF c91]
  clear c91
  have q40 : eqI (b.toNat : Int) 40 = false := by simp [eqI, c40]
  simp only [decF c40]
  clear c40
  have q92 : eqI (b.toNat : Int) 92 = false := by simp [eqI, c92]
  simp only [mSingle, if_neg c92]
  clear c92
  have hd := l04Special_ok b
  rw [show (signs.any fun c => decide ((c.toNat : Int) = (b.toNat : Int))) = spec b from rfl, hsp] at hd
  simp only [hsp]
  clear hsp h
  simp only [Bool.false_eq_true, if_false]
  have hp := sput_nil 1 [b] s (n + 1) false R0 (by omega)
  refine ⟨R0.length, n + 1, R0 ++ [[.v (.int .i64 (1)), .v (.string (B ([b]))), .v (.slice none 0 0)]], ?_, by omega, rfl, ⟨by simp, by simp; omega⟩, by omega⟩
  clear hlen
  cases R0
  all_goals
    simp only [hS, hT, ec1, ec2] at hp ⊢
    refine fnL_run rfl N81 Try.func81 U81 ?_; have o := o81; simp only [OE, opsR, cqR, subR, chi, Try.f81] at o
    (try simp (maxSteps := 4000000) (disch := first | assumption | omega) only [go_sem, *, arr_all, Option.isSome_some, hi, hl2, hl3, hp, hd, convB, sliceRows, List.mapM_cons, List.mapM_nil, Option.pure_def, Option.bind_eq_bind, Option.bind_some, List.toList_toArray, List.length_append, o, ↓bin_eqI, ↓bin_neI, Nat.reduceAdd, Nat.reduceSub, Nat.reduceMul, Nat.reduceBEq, Nat.reduceLeDiff, Nat.reduceLT, Nat.reduceDiv, Nat.reduceMod]); repeat' ((first | with_reducible first | refine caK (fun hb => ?_) fun hb => ?_ | refine caG (fun hb => ?_) fun hb => ?_ | refine caP (fun hb => ?_) fun hb => ?_ | refine caH (fun hb => ?_) fun hb => ?_ | refine caQ (fun hb => ?_) fun hb => ?_ | refine ite_cases (fun hb => ?_) fun hb => ?_ | rw [drwK_ok rfl]) <;> try simp (maxSteps := 4000000) (disch := first | assumption | omega) only [go_sem, *, arr_all, Option.isSome_some, hi, hl2, hl3, hp, hd, convB, sliceRows, List.mapM_cons, List.mapM_nil, Option.pure_def, Option.bind_eq_bind, Option.bind_some, List.toList_toArray, List.length_append, o, ↓bin_eqI, ↓bin_neI, Nat.reduceAdd, Nat.reduceSub, Nat.reduceMul, Nat.reduceBEq, Nat.reduceLeDiff, Nat.reduceLT, Nat.reduceDiv, Nat.reduceMod])
theorem sthing_of (k : Nat) (h : PIS 56 mAlt 1 6 k) : PIS 81 mBase 0 3 (k + 1) := by
  intro s n R0 hn hk hlen hs
  by_cases hl : n < s.length
  · by_cases c94 : (s[n].toNat : Int) = 94
    · exact sthing_94 k h s n R0 hn hk hlen hs hl c94
    by_cases c36 : (s[n].toNat : Int) = 36
    · exact sthing_36 k h s n R0 hn hk hlen hs hl c94 c36
    by_cases c46 : (s[n].toNat : Int) = 46
    · exact sthing_46 k h s n R0 hn hk hlen hs hl c94 c36 c46
    by_cases c91 : (s[n].toNat : Int) = 91
    · cases hm : mSet (s.drop (n + 1)) with
      | none => exact sthing_91a k h s n R0 hn hk hlen hs hl c94 c36 c46 c91 hm
      | some rest => exact sthing_91b k h s n R0 hn hk hlen hs hl c94 c36 c46 c91 rest hm
    by_cases c40 : (s[n].toNat : Int) = 40
    · cases hm : mAlt k (s.drop (n + 1)) with
      | none => exact sthing_40a k h s n R0 hn hk hlen hs hl c94 c36 c46 c91 c40 hm
      | some rest =>
        cases hx : nx 41 rest with
        | true => exact sthing_40b k h s n R0 hn hk hlen hs hl c94 c36 c46 c91 c40 rest hm hx
        | false => exact sthing_40c k h s n R0 hn hk hlen hs hl c94 c36 c46 c91 c40 rest hm hx
    by_cases c92 : (s[n].toNat : Int) = 92
    · by_cases hm : n + 1 < s.length
      · cases hsp : spec s[n + 1] with
        | true => exact sthing_92b k h s n R0 hn hk hlen hs hl c94 c36 c46 c91 c40 c92 hm hsp
        | false => exact sthing_92c k h s n R0 hn hk hlen hs hl c94 c36 c46 c91 c40 c92 hm hsp
      · exact sthing_92a k h s n R0 hn hk hlen hs hl c94 c36 c46 c91 c40 c92 hm
    cases hsp : spec s[n] with
    | true => exact sthing_db k h s n R0 hn hk hlen hs hl c94 c36 c46 c91 c40 c92 hsp
    | false => exact sthing_dc k h s n R0 hn hk hlen hs hl c94 c36 c46 c91 c40 c92 hsp
  · have hl2 : (s.length : Int) ≤ (n : Int) := by omega
    rw [List.drop_eq_nil_of_le (by omega)]
    clear h
    simp only [mBase, nx, mSingle]
    refine ⟨0, hS s n true R0, ?_, .inl ⟨_, rfl⟩⟩
    clear hlen
    cases R0
    all_goals
      simp only [hS]
      refine fnL_run rfl N81 Try.func81 U81 ?_; have o := o81; simp only [OE, opsR, cqR, subR, chi, Try.f81] at o
      (try simp (maxSteps := 4000000) (disch := first | assumption | omega) only [go_sem, *, arr_all, Option.isSome_some, hl2, o, ↓bin_eqI, ↓bin_neI, Nat.reduceAdd, Nat.reduceSub, Nat.reduceMul, Nat.reduceBEq, Nat.reduceLeDiff, Nat.reduceLT, Nat.reduceDiv, Nat.reduceMod]); repeat' ((first | with_reducible first | refine caK (fun hb => ?_) fun hb => ?_ | refine caG (fun hb => ?_) fun hb => ?_ | refine caP (fun hb => ?_) fun hb => ?_ | refine caH (fun hb => ?_) fun hb => ?_ | refine caQ (fun hb => ?_) fun hb => ?_ | refine ite_cases (fun hb => ?_) fun hb => ?_ | rw [drwK_ok rfl]) <;> try simp (maxSteps := 4000000) (disch := first | assumption | omega) only [go_sem, *, arr_all, Option.isSome_some, hl2, o, ↓bin_eqI, ↓bin_neI, Nat.reduceAdd, Nat.reduceSub, Nat.reduceMul, Nat.reduceBEq, Nat.reduceLeDiff, Nat.reduceLT, Nat.reduceDiv, Nat.reduceMod])
theorem sput_kids_bad (op : Int) (t : List UInt8) (ks : List Int) (hk : ks.length ≤ 4) (s : List UInt8) (i : Nat) (R : List (List D)) (n : Nat) (hn : R.length = n) (h1 : 1 ≤ n ∧ n ≤ 100) :
    fnL Try.prog T L0 69 [.c (.ptr 0 0 0), .agg [.d (.v (.int .i64 (op))), .d (.v (.string (B (t)))), .arr 2 0 ks.length]] [some (.var [.d (.v (.string (B (s)))), .d (.v (.int .i64 ((i : Int)))), .d (.v (.bool (true))), .arr 1 0 n]), some (.arr 3 R), some (.arr 1 (rI ks))] =
      some (.one (.c (.d (.v (.int .i64 ((n : Int)))))), [some (.var [.d (.v (.string (B (s)))), .d (.v (.int .i64 ((i : Int)))), .d (.v (.bool (true))), .arr 3 0 (n + 1)]), none, none, some (.arr 3 (R ++ [row op t ks]))]) := by
  have hroom : room = 70368744177664 := rfl
  have e : row op t ks = [.v (.int .i64 (op)), .v (.string (B (t))), .sl 1 (rI ks)] := rfl
  rw [e]
  have ht : R.take n = R := List.take_of_length_le (by omega)
  have hkt : (rI ks).take ks.length = rI ks := List.take_of_length_le (by simp [rI])
  have hs : ((n + 1 : Nat) : Int) - 1 = (n : Int) := by omega
  refine fnL_run rfl N69 Try.func69 U69 ?_; have o := o69; simp only [OE, opsR, cqR, subR, chi, Try.f69] at o
  (try simp (maxSteps := 4000000) (disch := first | assumption | omega) only [go_sem, *, ht, hkt, hs, o, ↓bin_eqI, ↓bin_neI, Nat.reduceAdd, Nat.reduceSub, Nat.reduceMul, Nat.reduceBEq, Nat.reduceLeDiff, Nat.reduceLT, Nat.reduceDiv, Nat.reduceMod]); repeat' ((first | with_reducible first | refine caK (fun hb => ?_) fun hb => ?_ | refine caG (fun hb => ?_) fun hb => ?_ | refine caP (fun hb => ?_) fun hb => ?_ | refine caH (fun hb => ?_) fun hb => ?_ | refine caQ (fun hb => ?_) fun hb => ?_ | refine ite_cases (fun hb => ?_) fun hb => ?_ | rw [drwK_ok rfl]) <;> try simp (maxSteps := 4000000) (disch := first | assumption | omega) only [go_sem, *, ht, hkt, hs, o, ↓bin_eqI, ↓bin_neI, Nat.reduceAdd, Nat.reduceSub, Nat.reduceMul, Nat.reduceBEq, Nat.reduceLeDiff, Nat.reduceLT, Nat.reduceDiv, Nat.reduceMod])
theorem smany_loop0 (s : List UInt8) (hs : s.length ≤ 24) : ∀ (m n a : Nat) (R : List (List D)), n + m = s.length → 1 ≤ R.length → R.length + (s.length - n) ≤ 59 →
    ∃ (a' n' : Nat) (R' : List (List D)), n' ≤ s.length ∧ mReps (s.drop n) = s.drop n' ∧ R.length ≤ R'.length ∧ R'.length + (s.length - n') = R.length + (s.length - n) ∧
    loopC Try.prog T (fnL Try.prog T L0) 78 (cq g78 [0, 0, 0, 1, 1]) ⟨[.one (.c (.ptr 0 0 0)), J, J, .one (.c (.d (.v (.int .i64 ((a : Int)))))), J, J, J, J, J, J, J, J, J, J, J, J, J, J, J, J, J, J, J, J, J, J, J, J, J, J, J, J, J, J, J, J, J, J, J, J, J, J, J, J, J, J, J, J, J, J, J, J], hpOf [some (.var [.d (.v (.string (B (s)))), .d (.v (.int .i64 ((n : Int)))), .d (.v (.bool (false))), .arr 1 0 R.length]), some (.arr 3 R)], 2, 1⟩ = some (.exit 0, ⟨[J, J, J, .one (.c (.d (.v (.int .i64 ((a' : Int)))))), J, J, J, J, J, J, J, J, J, J, J, J, J, J, J, J, J, J, J, J, J, J, J, J, J, J, J, J, J, J, J, J, J, J, J, J, J, J, J, J, J, J, J, J, J, J, J, J], hpOf [some (.var [.d (.v (.string (B (s)))), .d (.v (.int .i64 ((n' : Int)))), .d (.v (.bool (false))), .arr 1 0 R'.length]), some (.arr 3 R')], 2, 1⟩)
  | 0, n, a, R, hm, h1, hR => by
    have j1 := sis_ne 42 s n (by omega) hs R h1
    have j2 := sis_ne 43 s n (by omega) hs R h1
    have j3 := sis_ne 63 s n (by omega) hs R h1
    rw [List.drop_eq_nil_of_le (by omega)] at j1 j2 j3 ⊢
    simp only [nx, show ((42 : UInt8).toNat : Int) = 42 from rfl, show ((43 : UInt8).toNat : Int) = 43 from rfl, show ((63 : UInt8).toNat : Int) = 63 from rfl] at j1 j2 j3
    refine ⟨a, n, R, by omega, by rw [List.drop_eq_nil_of_le (by omega)]; rfl, by omega, by omega, ?_⟩
    clear hR
    have o := o78_11000; simp only [OE, opsR, cqR, subR, chi, Try.f78] at o
    rw [loopC_round]
    (try simp (maxSteps := 4000000) (disch := first | assumption | omega) only [go_sem, *, arr_all, Option.isSome_some, j1, j2, j3, o, ↓bin_eqI, ↓bin_neI, Nat.reduceAdd, Nat.reduceSub, Nat.reduceMul, Nat.reduceBEq, Nat.reduceLeDiff, Nat.reduceLT, Nat.reduceDiv, Nat.reduceMod]); repeat' ((first | with_reducible first | refine caK (fun hb => ?_) fun hb => ?_ | refine caG (fun hb => ?_) fun hb => ?_ | refine caP (fun hb => ?_) fun hb => ?_ | refine caH (fun hb => ?_) fun hb => ?_ | refine caQ (fun hb => ?_) fun hb => ?_ | refine ite_cases (fun hb => ?_) fun hb => ?_ | rw [drwK_ok rfl]) <;> try simp (maxSteps := 4000000) (disch := first | assumption | omega) only [go_sem, *, arr_all, Option.isSome_some, j1, j2, j3, o, ↓bin_eqI, ↓bin_neI, Nat.reduceAdd, Nat.reduceSub, Nat.reduceMul, Nat.reduceBEq, Nat.reduceLeDiff, Nat.reduceLT, Nat.reduceDiv, Nat.reduceMod])
  | m + 1, n, a, R, hm, h1, hR => by
    have hl : n < s.length := by omega
    have hi := ixAt s n hl
    have j1 := sis_ne 42 s n (by omega) hs R h1
    have j2 := sis_ne 43 s n (by omega) hs R h1
    have j3 := sis_ne 63 s n (by omega) hs R h1
    have ec : ((n + 1 : Nat) : Int) = (n : Int) + 1 := by omega
    have hl2 : (n : Int) < (s.length : Int) := by omega
    have hdr := List.drop_eq_getElem_cons hl
    rw [hdr] at j1 j2 j3
    simp only [nx, show ((42 : UInt8).toNat : Int) = 42 from rfl, show ((43 : UInt8).toNat : Int) = 43 from rfl, show ((63 : UInt8).toNat : Int) = 63 from rfl] at j1 j2 j3
    generalize s[n] = b at hi hdr j1 j2 j3
    have ih := fun op => smany_loop0 s hs m (n + 1) R.length (R ++ [row op [] [(a : Int)]]) (by omega) (by simp) (by simp; omega)
    have hp := fun op => sput_kids op [] [(a : Int)] (by simp) s (n + 1) false R R.length rfl ⟨by omega, by omega⟩
    by_cases c42 : (b.toNat : Int) = 42
    · have hr : isRep b = true := by simp [isRep, c42]
      obtain ⟨a', n', R', q1, q2, q3, q4, q5⟩ := ih 7
      refine ⟨a', n', R', q1, by rw [hdr]; simp only [mReps, hr]; exact q2, by simp at q3; omega, by simp at q4; omega, ?_⟩
      have hp := hp 7
      rw [c42] at hi j1 j2 j3
      simp only [decide_true, show decide ((42 : Int) = 43) = false from rfl, show decide ((42 : Int) = 63) = false from rfl, show decide ((43 : Int) = 63) = false from rfl, show decide ((43 : Int) = 42) = false from rfl, show decide ((63 : Int) = 42) = false from rfl, show decide ((63 : Int) = 43) = false from rfl] at j1 j2 j3
      simp only [rI, List.map_cons, List.map_nil, List.length_cons, List.length_nil, Nat.zero_add, Nat.reduceAdd, ec, List.length_append] at hp q5
      rw [← q5]
      clear q5 ih q1 q2 q3 q4 hr hdr c42  hR hm
      have o := o78_11000; simp only [OE, opsR, cqR, subR, chi, Try.f78] at o
      rw [loopC_round]
      (try simp (maxSteps := 4000000) (disch := first | assumption | omega) only [go_sem, *, arr_all, Option.isSome_some, hi, hl2, j1, j2, j3, hp, B_empty, List.length_append, o, ↓bin_eqI, ↓bin_neI, Nat.reduceAdd, Nat.reduceSub, Nat.reduceMul, Nat.reduceBEq, Nat.reduceLeDiff, Nat.reduceLT, Nat.reduceDiv, Nat.reduceMod]); repeat' ((first | with_reducible first | refine caK (fun hb => ?_) fun hb => ?_ | refine caG (fun hb => ?_) fun hb => ?_ | refine caP (fun hb => ?_) fun hb => ?_ | refine caH (fun hb => ?_) fun hb => ?_ | refine caQ (fun hb => ?_) fun hb => ?_ | refine ite_cases (fun hb => ?_) fun hb => ?_ | rw [drwK_ok rfl]) <;> try simp (maxSteps := 4000000) (disch := first | assumption | omega) only [go_sem, *, arr_all, Option.isSome_some, hi, hl2, j1, j2, j3, hp, B_empty, List.length_append, o, ↓bin_eqI, ↓bin_neI, Nat.reduceAdd, Nat.reduceSub, Nat.reduceMul, Nat.reduceBEq, Nat.reduceLeDiff, Nat.reduceLT, Nat.reduceDiv, Nat.reduceMod])
    by_cases c43 : (b.toNat : Int) = 43
    · have hr : isRep b = true := by simp [isRep, c43]
      obtain ⟨a', n', R', q1, q2, q3, q4, q5⟩ := ih 8
      refine ⟨a', n', R', q1, by rw [hdr]; simp only [mReps, hr]; exact q2, by simp at q3; omega, by simp at q4; omega, ?_⟩
      have hp := hp 8
      rw [c43] at hi j1 j2 j3
      simp only [decide_true, show decide ((42 : Int) = 43) = false from rfl, show decide ((42 : Int) = 63) = false from rfl, show decide ((43 : Int) = 63) = false from rfl, show decide ((43 : Int) = 42) = false from rfl, show decide ((63 : Int) = 42) = false from rfl, show decide ((63 : Int) = 43) = false from rfl] at j1 j2 j3
      simp only [rI, List.map_cons, List.map_nil, List.length_cons, List.length_nil, Nat.zero_add, Nat.reduceAdd, ec, List.length_append] at hp q5
      rw [← q5]
      clear q5 ih q1 q2 q3 q4 hr hdr c43 c42 hR hm
      have o := o78_11000; simp only [OE, opsR, cqR, subR, chi, Try.f78] at o
      rw [loopC_round]
      (try simp (maxSteps := 4000000) (disch := first | assumption | omega) only [go_sem, *, arr_all, Option.isSome_some, hi, hl2, j1, j2, j3, hp, B_empty, List.length_append, o, ↓bin_eqI, ↓bin_neI, Nat.reduceAdd, Nat.reduceSub, Nat.reduceMul, Nat.reduceBEq, Nat.reduceLeDiff, Nat.reduceLT, Nat.reduceDiv, Nat.reduceMod]); repeat' ((first | with_reducible first | refine caK (fun hb => ?_) fun hb => ?_ | refine caG (fun hb => ?_) fun hb => ?_ | refine caP (fun hb => ?_) fun hb => ?_ | refine caH (fun hb => ?_) fun hb => ?_ | refine caQ (fun hb => ?_) fun hb => ?_ | refine ite_cases (fun hb => ?_) fun hb => ?_ | rw [drwK_ok rfl]) <;> try simp (maxSteps := 4000000) (disch := first | assumption | omega) only [go_sem, *, arr_all, Option.isSome_some, hi, hl2, j1, j2, j3, hp, B_empty, List.length_append, o, ↓bin_eqI, ↓bin_neI, Nat.reduceAdd, Nat.reduceSub, Nat.reduceMul, Nat.reduceBEq, Nat.reduceLeDiff, Nat.reduceLT, Nat.reduceDiv, Nat.reduceMod])
    by_cases c63 : (b.toNat : Int) = 63
    · have hr : isRep b = true := by simp [isRep, c63]
      obtain ⟨a', n', R', q1, q2, q3, q4, q5⟩ := ih 9
      refine ⟨a', n', R', q1, by rw [hdr]; simp only [mReps, hr]; exact q2, by simp at q3; omega, by simp at q4; omega, ?_⟩
      have hp := hp 9
      rw [c63] at hi j1 j2 j3
      simp only [decide_true, show decide ((42 : Int) = 43) = false from rfl, show decide ((42 : Int) = 63) = false from rfl, show decide ((43 : Int) = 63) = false from rfl, show decide ((43 : Int) = 42) = false from rfl, show decide ((63 : Int) = 42) = false from rfl, show decide ((63 : Int) = 43) = false from rfl] at j1 j2 j3
      simp only [rI, List.map_cons, List.map_nil, List.length_cons, List.length_nil, Nat.zero_add, Nat.reduceAdd, ec, List.length_append] at hp q5
      rw [← q5]
      clear q5 ih q1 q2 q3 q4 hr hdr c63 c42 c43 hR hm
      have o := o78_11000; simp only [OE, opsR, cqR, subR, chi, Try.f78] at o
      rw [loopC_round]
      (try simp (maxSteps := 4000000) (disch := first | assumption | omega) only [go_sem, *, arr_all, Option.isSome_some, hi, hl2, j1, j2, j3, hp, B_empty, List.length_append, o, ↓bin_eqI, ↓bin_neI, Nat.reduceAdd, Nat.reduceSub, Nat.reduceMul, Nat.reduceBEq, Nat.reduceLeDiff, Nat.reduceLT, Nat.reduceDiv, Nat.reduceMod]); repeat' ((first | with_reducible first | refine caK (fun hb => ?_) fun hb => ?_ | refine caG (fun hb => ?_) fun hb => ?_ | refine caP (fun hb => ?_) fun hb => ?_ | refine caH (fun hb => ?_) fun hb => ?_ | refine caQ (fun hb => ?_) fun hb => ?_ | refine ite_cases (fun hb => ?_) fun hb => ?_ | rw [drwK_ok rfl]) <;> try simp (maxSteps := 4000000) (disch := first | assumption | omega) only [go_sem, *, arr_all, Option.isSome_some, hi, hl2, j1, j2, j3, hp, B_empty, List.length_append, o, ↓bin_eqI, ↓bin_neI, Nat.reduceAdd, Nat.reduceSub, Nat.reduceMul, Nat.reduceBEq, Nat.reduceLeDiff, Nat.reduceLT, Nat.reduceDiv, Nat.reduceMod])
    have hr : isRep b = false := by simp [isRep, c42, c43, c63]
    simp only [decF c42, decF c43, decF c63] at j1 j2 j3
    refine ⟨a, n, R, by omega, by rw [hdr]; simp only [mReps, hr], by omega, by omega, ?_⟩
    clear ih hp hr hdr c42 c43 c63 hR hm
    have o := o78_11000; simp only [OE, opsR, cqR, subR, chi, Try.f78] at o
    rw [loopC_round]
    (try simp (maxSteps := 4000000) (disch := first | assumption | omega) only [go_sem, *, arr_all, Option.isSome_some, hi, hl2, j1, j2, j3, o, ↓bin_eqI, ↓bin_neI, Nat.reduceAdd, Nat.reduceSub, Nat.reduceMul, Nat.reduceBEq, Nat.reduceLeDiff, Nat.reduceLT, Nat.reduceDiv, Nat.reduceMod]); repeat' ((first | with_reducible first | refine caK (fun hb => ?_) fun hb => ?_ | refine caG (fun hb => ?_) fun hb => ?_ | refine caP (fun hb => ?_) fun hb => ?_ | refine caH (fun hb => ?_) fun hb => ?_ | refine caQ (fun hb => ?_) fun hb => ?_ | refine ite_cases (fun hb => ?_) fun hb => ?_ | rw [drwK_ok rfl]) <;> try simp (maxSteps := 4000000) (disch := first | assumption | omega) only [go_sem, *, arr_all, Option.isSome_some, hi, hl2, j1, j2, j3, o, ↓bin_eqI, ↓bin_neI, Nat.reduceAdd, Nat.reduceSub, Nat.reduceMul, Nat.reduceBEq, Nat.reduceLeDiff, Nat.reduceLT, Nat.reduceDiv, Nat.reduceMod])
theorem smany_loop1 (s : List UInt8) (hs : s.length ≤ 24) : ∀ (m n a : Nat) (R : List (List D)), n + m = s.length → 1 ≤ R.length → R.length + (s.length - n) ≤ 59 →
    ∃ (a' n' : Nat) (R' : List (List D)), n' ≤ s.length ∧ mReps (s.drop n) = s.drop n' ∧ R.length ≤ R'.length ∧ R'.length + (s.length - n') = R.length + (s.length - n) ∧
    loopC Try.prog T (fnL Try.prog T L0) 78 (cq g78 [0, 0, 0, 1, 1]) ⟨[.one (.c (.ptr 0 0 0)), J, J, .one (.c (.d (.v (.int .i64 ((a : Int)))))), J, J, J, J, J, J, J, J, J, J, J, J, J, J, J, J, J, J, J, J, J, J, J, J, J, J, J, J, J, J, J, J, J, J, J, J, J, J, J, J, J, J, J, J, J, J, J, J], hpOf [some (.var [.d (.v (.string (B (s)))), .d (.v (.int .i64 ((n : Int)))), .d (.v (.bool (false))), .arr 2 0 R.length]), none, some (.arr 3 R)], 3, 2⟩ = some (.exit 0, ⟨[J, J, J, .one (.c (.d (.v (.int .i64 ((a' : Int)))))), J, J, J, J, J, J, J, J, J, J, J, J, J, J, J, J, J, J, J, J, J, J, J, J, J, J, J, J, J, J, J, J, J, J, J, J, J, J, J, J, J, J, J, J, J, J, J, J], hpOf [some (.var [.d (.v (.string (B (s)))), .d (.v (.int .i64 ((n' : Int)))), .d (.v (.bool (false))), .arr 2 0 R'.length]), none, some (.arr 3 R')], 3, 2⟩)
  | 0, n, a, R, hm, h1, hR => by
    have j1 := sis_ne 42 s n (by omega) hs R h1
    have j2 := sis_ne 43 s n (by omega) hs R h1
    have j3 := sis_ne 63 s n (by omega) hs R h1
    rw [List.drop_eq_nil_of_le (by omega)] at j1 j2 j3 ⊢
    simp only [nx, show ((42 : UInt8).toNat : Int) = 42 from rfl, show ((43 : UInt8).toNat : Int) = 43 from rfl, show ((63 : UInt8).toNat : Int) = 63 from rfl] at j1 j2 j3
    refine ⟨a, n, R, by omega, by rw [List.drop_eq_nil_of_le (by omega)]; rfl, by omega, by omega, ?_⟩
    clear hR
    have o := o78_11000; simp only [OE, opsR, cqR, subR, chi, Try.f78] at o
    rw [loopC_round]
    (try simp (maxSteps := 4000000) (disch := first | assumption | omega) only [go_sem, *, arr_all, Option.isSome_some, j1, j2, j3, o, ↓bin_eqI, ↓bin_neI, Nat.reduceAdd, Nat.reduceSub, Nat.reduceMul, Nat.reduceBEq, Nat.reduceLeDiff, Nat.reduceLT, Nat.reduceDiv, Nat.reduceMod]); repeat' ((first | with_reducible first | refine caK (fun hb => ?_) fun hb => ?_ | refine caG (fun hb => ?_) fun hb => ?_ | refine caP (fun hb => ?_) fun hb => ?_ | refine caH (fun hb => ?_) fun hb => ?_ | refine caQ (fun hb => ?_) fun hb => ?_ | refine ite_cases (fun hb => ?_) fun hb => ?_ | rw [drwK_ok rfl]) <;> try simp (maxSteps := 4000000) (disch := first | assumption | omega) only [go_sem, *, arr_all, Option.isSome_some, j1, j2, j3, o, ↓bin_eqI, ↓bin_neI, Nat.reduceAdd, Nat.reduceSub, Nat.reduceMul, Nat.reduceBEq, Nat.reduceLeDiff, Nat.reduceLT, Nat.reduceDiv, Nat.reduceMod])
  | m + 1, n, a, R, hm, h1, hR => by
    have hl : n < s.length := by omega
    have hi := ixAt s n hl
    have j1 := sis_ne 42 s n (by omega) hs R h1
    have j2 := sis_ne 43 s n (by omega) hs R h1
    have j3 := sis_ne 63 s n (by omega) hs R h1
    have ec : ((n + 1 : Nat) : Int) = (n : Int) + 1 := by omega
    have hl2 : (n : Int) < (s.length : Int) := by omega
    have hdr := List.drop_eq_getElem_cons hl
    rw [hdr] at j1 j2 j3
    simp only [nx, show ((42 : UInt8).toNat : Int) = 42 from rfl, show ((43 : UInt8).toNat : Int) = 43 from rfl, show ((63 : UInt8).toNat : Int) = 63 from rfl] at j1 j2 j3
    generalize s[n] = b at hi hdr j1 j2 j3
    have ih := fun op => smany_loop1 s hs m (n + 1) R.length (R ++ [row op [] [(a : Int)]]) (by omega) (by simp) (by simp; omega)
    have hp := fun op => sput_kids op [] [(a : Int)] (by simp) s (n + 1) false R R.length rfl ⟨by omega, by omega⟩
    by_cases c42 : (b.toNat : Int) = 42
    · have hr : isRep b = true := by simp [isRep, c42]
      obtain ⟨a', n', R', q1, q2, q3, q4, q5⟩ := ih 7
      refine ⟨a', n', R', q1, by rw [hdr]; simp only [mReps, hr]; exact q2, by simp at q3; omega, by simp at q4; omega, ?_⟩
      have hp := hp 7
      rw [c42] at hi j1 j2 j3
      simp only [decide_true, show decide ((42 : Int) = 43) = false from rfl, show decide ((42 : Int) = 63) = false from rfl, show decide ((43 : Int) = 63) = false from rfl, show decide ((43 : Int) = 42) = false from rfl, show decide ((63 : Int) = 42) = false from rfl, show decide ((63 : Int) = 43) = false from rfl] at j1 j2 j3
      simp only [rI, List.map_cons, List.map_nil, List.length_cons, List.length_nil, Nat.zero_add, Nat.reduceAdd, ec, List.length_append] at hp q5
      rw [← q5]
      clear q5 ih q1 q2 q3 q4 hr hdr c42  hR hm
      have o := o78_11000; simp only [OE, opsR, cqR, subR, chi, Try.f78] at o
      rw [loopC_round]
      (try simp (maxSteps := 4000000) (disch := first | assumption | omega) only [go_sem, *, arr_all, Option.isSome_some, hi, hl2, j1, j2, j3, hp, B_empty, List.length_append, o, ↓bin_eqI, ↓bin_neI, Nat.reduceAdd, Nat.reduceSub, Nat.reduceMul, Nat.reduceBEq, Nat.reduceLeDiff, Nat.reduceLT, Nat.reduceDiv, Nat.reduceMod]); repeat' ((first | with_reducible first | refine caK (fun hb => ?_) fun hb => ?_ | refine caG (fun hb => ?_) fun hb => ?_ | refine caP (fun hb => ?_) fun hb => ?_ | refine caH (fun hb => ?_) fun hb => ?_ | refine caQ (fun hb => ?_) fun hb => ?_ | refine ite_cases (fun hb => ?_) fun hb => ?_ | rw [drwK_ok rfl]) <;> try simp (maxSteps := 4000000) (disch := first | assumption | omega) only [go_sem, *, arr_all, Option.isSome_some, hi, hl2, j1, j2, j3, hp, B_empty, List.length_append, o, ↓bin_eqI, ↓bin_neI, Nat.reduceAdd, Nat.reduceSub, Nat.reduceMul, Nat.reduceBEq, Nat.reduceLeDiff, Nat.reduceLT, Nat.reduceDiv, Nat.reduceMod])
    by_cases c43 : (b.toNat : Int) = 43
    · have hr : isRep b = true := by simp [isRep, c43]
      obtain ⟨a', n', R', q1, q2, q3, q4, q5⟩ := ih 8
      refine ⟨a', n', R', q1, by rw [hdr]; simp only [mReps, hr]; exact q2, by simp at q3; omega, by simp at q4; omega, ?_⟩
      have hp := hp 8
      rw [c43] at hi j1 j2 j3
      simp only [decide_true, show decide ((42 : Int) = 43) = false from rfl, show decide ((42 : Int) = 63) = false from rfl, show decide ((43 : Int) = 63) = false from rfl, show decide ((43 : Int) = 42) = false from rfl, show decide ((63 : Int) = 42) = false from rfl, show decide ((63 : Int) = 43) = false from rfl] at j1 j2 j3
      simp only [rI, List.map_cons, List.map_nil, List.length_cons, List.length_nil, Nat.zero_add, Nat.reduceAdd, ec, List.length_append] at hp q5
      rw [← q5]
      clear q5 ih q1 q2 q3 q4 hr hdr c43 c42 hR hm
      have o := o78_11000; simp only [OE, opsR, cqR, subR, chi, Try.f78] at o
      rw [loopC_round]
      (try simp (maxSteps := 4000000) (disch := first | assumption | omega) only [go_sem, *, arr_all, Option.isSome_some, hi, hl2, j1, j2, j3, hp, B_empty, List.length_append, o, ↓bin_eqI, ↓bin_neI, Nat.reduceAdd, Nat.reduceSub, Nat.reduceMul, Nat.reduceBEq, Nat.reduceLeDiff, Nat.reduceLT, Nat.reduceDiv, Nat.reduceMod]); repeat' ((first | with_reducible first | refine caK (fun hb => ?_) fun hb => ?_ | refine caG (fun hb => ?_) fun hb => ?_ | refine caP (fun hb => ?_) fun hb => ?_ | refine caH (fun hb => ?_) fun hb => ?_ | refine caQ (fun hb => ?_) fun hb => ?_ | refine ite_cases (fun hb => ?_) fun hb => ?_ | rw [drwK_ok rfl]) <;> try simp (maxSteps := 4000000) (disch := first | assumption | omega) only [go_sem, *, arr_all, Option.isSome_some, hi, hl2, j1, j2, j3, hp, B_empty, List.length_append, o, ↓bin_eqI, ↓bin_neI, Nat.reduceAdd, Nat.reduceSub, Nat.reduceMul, Nat.reduceBEq, Nat.reduceLeDiff, Nat.reduceLT, Nat.reduceDiv, Nat.reduceMod])
    by_cases c63 : (b.toNat : Int) = 63
    · have hr : isRep b = true := by simp [isRep, c63]
      obtain ⟨a', n', R', q1, q2, q3, q4, q5⟩ := ih 9
      refine ⟨a', n', R', q1, by rw [hdr]; simp only [mReps, hr]; exact q2, by simp at q3; omega, by simp at q4; omega, ?_⟩
      have hp := hp 9
      rw [c63] at hi j1 j2 j3
      simp only [decide_true, show decide ((42 : Int) = 43) = false from rfl, show decide ((42 : Int) = 63) = false from rfl, show decide ((43 : Int) = 63) = false from rfl, show decide ((43 : Int) = 42) = false from rfl, show decide ((63 : Int) = 42) = false from rfl, show decide ((63 : Int) = 43) = false from rfl] at j1 j2 j3
      simp only [rI, List.map_cons, List.map_nil, List.length_cons, List.length_nil, Nat.zero_add, Nat.reduceAdd, ec, List.length_append] at hp q5
      rw [← q5]
      clear q5 ih q1 q2 q3 q4 hr hdr c63 c42 c43 hR hm
      have o := o78_11000; simp only [OE, opsR, cqR, subR, chi, Try.f78] at o
      rw [loopC_round]
      (try simp (maxSteps := 4000000) (disch := first | assumption | omega) only [go_sem, *, arr_all, Option.isSome_some, hi, hl2, j1, j2, j3, hp, B_empty, List.length_append, o, ↓bin_eqI, ↓bin_neI, Nat.reduceAdd, Nat.reduceSub, Nat.reduceMul, Nat.reduceBEq, Nat.reduceLeDiff, Nat.reduceLT, Nat.reduceDiv, Nat.reduceMod]); repeat' ((first | with_reducible first | refine caK (fun hb => ?_) fun hb => ?_ | refine caG (fun hb => ?_) fun hb => ?_ | refine caP (fun hb => ?_) fun hb => ?_ | refine caH (fun hb => ?_) fun hb => ?_ | refine caQ (fun hb => ?_) fun hb => ?_ | refine ite_cases (fun hb => ?_) fun hb => ?_ | rw [drwK_ok rfl]) <;> try simp (maxSteps := 4000000) (disch := first | assumption | omega) only [go_sem, *, arr_all, Option.isSome_some, hi, hl2, j1, j2, j3, hp, B_empty, List.length_append, o, ↓bin_eqI, ↓bin_neI, Nat.reduceAdd, Nat.reduceSub, Nat.reduceMul, Nat.reduceBEq, Nat.reduceLeDiff, Nat.reduceLT, Nat.reduceDiv, Nat.reduceMod])
    have hr : isRep b = false := by simp [isRep, c42, c43, c63]
    simp only [decF c42, decF c43, decF c63] at j1 j2 j3
    refine ⟨a, n, R, by omega, by rw [hdr]; simp only [mReps, hr], by omega, by omega, ?_⟩
    clear ih hp hr hdr c42 c43 c63 hR hm
    have o := o78_11000; simp only [OE, opsR, cqR, subR, chi, Try.f78] at o
    rw [loopC_round]
    (try simp (maxSteps := 4000000) (disch := first | assumption | omega) only [go_sem, *, arr_all, Option.isSome_some, hi, hl2, j1, j2, j3, o, ↓bin_eqI, ↓bin_neI, Nat.reduceAdd, Nat.reduceSub, Nat.reduceMul, Nat.reduceBEq, Nat.reduceLeDiff, Nat.reduceLT, Nat.reduceDiv, Nat.reduceMod]); repeat' ((first | with_reducible first | refine caK (fun hb => ?_) fun hb => ?_ | refine caG (fun hb => ?_) fun hb => ?_ | refine caP (fun hb => ?_) fun hb => ?_ | refine caH (fun hb => ?_) fun hb => ?_ | refine caQ (fun hb => ?_) fun hb => ?_ | refine ite_cases (fun hb => ?_) fun hb => ?_ | rw [drwK_ok rfl]) <;> try simp (maxSteps := 4000000) (disch := first | assumption | omega) only [go_sem, *, arr_all, Option.isSome_some, hi, hl2, j1, j2, j3, o, ↓bin_eqI, ↓bin_neI, Nat.reduceAdd, Nat.reduceSub, Nat.reduceMul, Nat.reduceBEq, Nat.reduceLeDiff, Nat.reduceLT, Nat.reduceDiv, Nat.reduceMod])
theorem smany_of (k : Nat) (h : PIS 81 mBase 0 3 k) : PIS 78 mThing 0 4 (k + 1) := by
  intro s n R0 hn hk hlen hs
  have hb := h s n R0 hn (by omega) hlen hs
  simp only [mThing]
  cases hm : mBase k (s.drop n) with
  | none =>
    rw [hm] at hb
    obtain ⟨w, bs, e, hbs⟩ := hb
    refine ⟨w, bs, ?_, hbs⟩
    clear hm h hlen hk
    rcases hbs with ⟨n', rfl⟩ | ⟨n', R, h1, h2, rfl⟩
    · have hj := fun c => sis_bad c s n' R0
      cases R0
      all_goals
        simp only [hS] at e hj ⊢
        refine fnL_run rfl N78 Try.func78 U78 ?_; have o := o78; simp only [OE, opsR, cqR, subR, chi, Try.f78] at o
        (try simp (maxSteps := 4000000) (disch := first | assumption | omega) only [go_sem, *, arr_all, Option.isSome_some, e, hj, loopC_round, o, ↓bin_eqI, ↓bin_neI, Nat.reduceAdd, Nat.reduceSub, Nat.reduceMul, Nat.reduceBEq, Nat.reduceLeDiff, Nat.reduceLT, Nat.reduceDiv, Nat.reduceMod]); repeat' ((first | with_reducible first | refine caK (fun hb => ?_) fun hb => ?_ | refine caG (fun hb => ?_) fun hb => ?_ | refine caP (fun hb => ?_) fun hb => ?_ | refine caH (fun hb => ?_) fun hb => ?_ | refine caQ (fun hb => ?_) fun hb => ?_ | refine ite_cases (fun hb => ?_) fun hb => ?_ | rw [drwK_ok rfl]) <;> try simp (maxSteps := 4000000) (disch := first | assumption | omega) only [go_sem, *, arr_all, Option.isSome_some, e, hj, loopC_round, o, ↓bin_eqI, ↓bin_neI, Nat.reduceAdd, Nat.reduceSub, Nat.reduceMul, Nat.reduceBEq, Nat.reduceLeDiff, Nat.reduceLT, Nat.reduceDiv, Nat.reduceMod])
    · have hj := fun c => sis_nbad c s n' R h1
      cases R0
      all_goals
        simp only [hS, hT] at e hj ⊢
        refine fnL_run rfl N78 Try.func78 U78 ?_; have o := o78; simp only [OE, opsR, cqR, subR, chi, Try.f78] at o
        (try simp (maxSteps := 4000000) (disch := first | assumption | omega) only [go_sem, *, arr_all, Option.isSome_some, e, hj, loopC_round, o, ↓bin_eqI, ↓bin_neI, Nat.reduceAdd, Nat.reduceSub, Nat.reduceMul, Nat.reduceBEq, Nat.reduceLeDiff, Nat.reduceLT, Nat.reduceDiv, Nat.reduceMod]); repeat' ((first | with_reducible first | refine caK (fun hb => ?_) fun hb => ?_ | refine caG (fun hb => ?_) fun hb => ?_ | refine caP (fun hb => ?_) fun hb => ?_ | refine caH (fun hb => ?_) fun hb => ?_ | refine caQ (fun hb => ?_) fun hb => ?_ | refine ite_cases (fun hb => ?_) fun hb => ?_ | rw [drwK_ok rfl]) <;> try simp (maxSteps := 4000000) (disch := first | assumption | omega) only [go_sem, *, arr_all, Option.isSome_some, e, hj, loopC_round, o, ↓bin_eqI, ↓bin_neI, Nat.reduceAdd, Nat.reduceSub, Nat.reduceMul, Nat.reduceBEq, Nat.reduceLeDiff, Nat.reduceLT, Nat.reduceDiv, Nat.reduceMod])
  | some r =>
    rw [hm] at hb
    obtain ⟨a, n', R, e, g1, g2, ⟨g3, g4⟩, g5⟩ := hb
    subst g2
    clear hm h
    simp only
    cases R0 with
    | nil =>
      obtain ⟨a', n2, R', q1, q2, q3, q4, q5⟩ := smany_loop0 s hs (s.length - n') n' a R (by omega) (by omega) (by simp at g4 hlen; omega)
      refine ⟨a', n2, R', ?_, q1, q2, ⟨by omega, by simp at g4 ⊢; omega⟩, by omega⟩
      clear q1 q2 q3 q4 g1 g3 g4 g5 hlen hk
      simp only [hS, hT] at e ⊢
      refine fnL_run rfl N78 Try.func78 U78 ?_; have o := o78; simp only [OE, opsR, cqR, subR, chi, Try.f78] at o
      (try simp (maxSteps := 4000000) (disch := first | assumption | omega) only [go_sem, *, arr_all, Option.isSome_some, e, q5, o, ↓bin_eqI, ↓bin_neI, Nat.reduceAdd, Nat.reduceSub, Nat.reduceMul, Nat.reduceBEq, Nat.reduceLeDiff, Nat.reduceLT, Nat.reduceDiv, Nat.reduceMod]); repeat' ((first | with_reducible first | refine caK (fun hb => ?_) fun hb => ?_ | refine caG (fun hb => ?_) fun hb => ?_ | refine caP (fun hb => ?_) fun hb => ?_ | refine caH (fun hb => ?_) fun hb => ?_ | refine caQ (fun hb => ?_) fun hb => ?_ | refine ite_cases (fun hb => ?_) fun hb => ?_ | rw [drwK_ok rfl]) <;> try simp (maxSteps := 4000000) (disch := first | assumption | omega) only [go_sem, *, arr_all, Option.isSome_some, e, q5, o, ↓bin_eqI, ↓bin_neI, Nat.reduceAdd, Nat.reduceSub, Nat.reduceMul, Nat.reduceBEq, Nat.reduceLeDiff, Nat.reduceLT, Nat.reduceDiv, Nat.reduceMod])
    | cons p ps =>
      obtain ⟨a', n2, R', q1, q2, q3, q4, q5⟩ := smany_loop1 s hs (s.length - n') n' a R (by omega) (by omega) (by simp at g4 hlen; omega)
      refine ⟨a', n2, R', ?_, q1, q2, ⟨by omega, by simp at g4 ⊢; omega⟩, by omega⟩
      clear q1 q2 q3 q4 g1 g3 g4 g5 hlen hk
      simp only [hS, hT] at e ⊢
      refine fnL_run rfl N78 Try.func78 U78 ?_; have o := o78; simp only [OE, opsR, cqR, subR, chi, Try.f78] at o
      (try simp (maxSteps := 4000000) (disch := first | assumption | omega) only [go_sem, *, arr_all, Option.isSome_some, e, q5, o, ↓bin_eqI, ↓bin_neI, Nat.reduceAdd, Nat.reduceSub, Nat.reduceMul, Nat.reduceBEq, Nat.reduceLeDiff, Nat.reduceLT, Nat.reduceDiv, Nat.reduceMod]); repeat' ((first | with_reducible first | refine caK (fun hb => ?_) fun hb => ?_ | refine caG (fun hb => ?_) fun hb => ?_ | refine caP (fun hb => ?_) fun hb => ?_ | refine caH (fun hb => ?_) fun hb => ?_ | refine caQ (fun hb => ?_) fun hb => ?_ | refine ite_cases (fun hb => ?_) fun hb => ?_ | rw [drwK_ok rfl]) <;> try simp (maxSteps := 4000000) (disch := first | assumption | omega) only [go_sem, *, arr_all, Option.isSome_some, e, q5, o, ↓bin_eqI, ↓bin_neI, Nat.reduceAdd, Nat.reduceSub, Nat.reduceMul, Nat.reduceBEq, Nat.reduceLeDiff, Nat.reduceLT, Nat.reduceDiv, Nat.reduceMod])
end
end Go.Vsi
