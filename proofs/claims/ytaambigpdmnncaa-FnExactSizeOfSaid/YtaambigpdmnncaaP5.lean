/- What the functions of the program, of the reference and of the law do (a part of it). -/
import Derived.Test.YtaambigpdmnncaaP4
namespace Go.Vsi
open Go.Proofs
noncomputable section
set_option maxRecDepth 100000
set_option maxHeartbeats 4000000
set_option linter.unusedSimpArgs false
set_option linter.unusedVariables false
attribute [local go_sem] List.isEmpty_nil Bool.true_or Bool.and_true Bool.and_self Bool.false_eq_true Bool.not_true Bool.not_false List.set_cons_zero List.set_cons_succ frzSt wantedA evA constW ofVal plain oneOf noUp toVal cellVal putA startA List.length_cons List.length_nil List.map_cons List.map_nil List.replicate List.cons_append List.nil_append List.getElem?_cons_succ List.getElem?_cons_zero List.getElem?_toArray List.set upd Option.bind resA resOne giveA seenOf idsAt reach renH renW renV renS renB idsW idsV idsS frzW frzV frzS List.filter_nil List.range_zero List.flatMap_nil List.flatMap_cons List.append_nil List.range List.range.loop sliceLen intV List.length_map one partA ordOf canon junkBut List.elem_cons List.elem_nil Bool.false_or Bool.or_false Bool.or_true cond_true cond_false firstReg evL opTmps footA cut callOk List.all_nil List.all_cons Op.operands Array.toList List.filterMap_cons List.filterMap_nil lendCall ownCall lendVs lendV lendS plainW plainV plainS List.zipIdx_nil hpOf Array.toList_map idsB natBle beq_self_eq_true Int.toNat_natCast Option.map_some Option.map_none ix cellsV Nat.zero_add List.any_nil List.any_cons List.take_zero List.take_succ_cons List.take_nil List.drop_succ_cons List.drop_zero List.drop_nil toD toDs List.filter_cons Nat.zero_le Nat.le_refl frzH ite_true ite_false if_true if_false stpO_some opsO_nil opsO_cons stpD_some nthD_some drawO_nil drawO_cons decTrue decFalse callA natBeq decT decF B_size B_mk B_empty B_append B_extract decide_eq_true_eq Bool.not_eq_true' decide_eq_false_iff_not Bool.and_eq_true Bool.or_eq_true boundsA sliceA B_toList Bool.and_false Bool.false_and Bool.true_and backOf List.zipIdx_cons Option.getD_some Option.getD_none Nat.sub_self fillA rowsOf toRows List.flatten_cons List.flatten_nil appendA sliceRows lendSs capPtr opO_pick opO_move opO_assign opO_extract opO_nilCheck opO_unOp opO_binOp opO_convert opO_index opO_field opO_alloc opO_box opO_build opO_buildSlice opO_makeSlice opO_load opO_store opO_fieldAddr opO_indexAddr opO_slice opO_makeFunc opO_builtin opO_fn regK_some lopK_some lopK_ite map_get endA condK_true condK_false grdO_true grdO_false grdD_true grdD_false pickO_true pickO_false if_pos if_neg eqI_self eqI_t eqI_f true_and and_true and_self not_true_eq_false not_false_eq_true Bool.not_not Go.Call.operands closedB List.all_append List.filterMap_append Array.toList_append List.flatMap_append Bool.or_self List.getElem?_nil Bool.true_beq Bool.false_beq G16 I3 S3 C3 A3 B3 Try.underlying3 Z3 I4 S4 C4 A4 B4 Try.underlying4 Z4 I9 S9 C9 A9 B9 Try.underlying9 Z9 I28 S28 C28 A28 B28 Try.underlying28 E28 Z28 I29 S29 C29 A29 B29 Try.underlying29 E29 Z29 I31 S31 C31 A31 B31 Try.underlying31 Z31 I38 S38 C38 A38 B38 Try.underlying38 E38 Z38 I47 S47 C47 A47 B47 Try.underlying47 E47 Z47 I52 S52 C52 A52 B52 Try.underlying52 Z52 I54 S54 C54 A54 B54 Try.underlying54 Z54 K16_3 K16_11 K16_14 O16_3 O16_11 O16_14 R16 M16 G12 K12_3 K12_9 K12_12 O12_3 O12_9 O12_12 R12 M12 G7 K7_5 O7_5 H15 Y15 H16 Y16 H17 Y17 R7 M7 G5 K5_6 O5_6 H11 Y11 H12 Y12 R5 M5 G33 R33 M33 G20 I49 S49 C49 A49 B49 Try.underlying49 Z49 H33 Y33 R20 M20 G9 I22 S22 C22 A22 B22 Try.underlying22 E22 Z22 K9_5 O9_5 H20 Y20 R9 M9 G10 I23 S23 C23 A23 B23 Try.underlying23 E23 Z23 I58 S58 C58 A58 B58 Try.underlying58 Z58 R10 M10 G4 I25 S25 C25 A25 B25 Try.underlying25 Z25 H9 Y9 H10 Y10 R4 M4 G36 K36_3 O36_3 R36 M36 G24 H36 Y36 R24 M24 G25 R25 M25 G13 K13_3 O13_3 H24 Y24 R13 M13 G14 K14_3 O14_3 H25 Y25 R14 M14 G6 H13 Y13 H14 Y14 R6 M6 G44 K44_4 O44_4 R44 M44 G31 H44 Y44 R31 M31 G32 R32 M32 G18 K18_4 O18_4 H31 Y31 R18 M18 G19 K19_4 O19_4 H32 Y32 R19 M19 G8 H18 Y18 H19 Y19 R8 M8 G3 H4 Y4 H5 Y5 H6 Y6 H7 Y7 H8 Y8 R3 M3
attribute [local go_sem ↓] ite_dec popK_nil popK_seq popK_seqE popK_seqR popK_blk popK_blkR popK_blkE endF_normal endF_ret q16_ q16_0 q16_1 q16_10 q16_11 q16_110 q16_1100 q16_1101 q16_11010 q16_110100 q16_1101000 q16_1101001 q16_11010010 q16_110100100 q16_110100101 q16_11010011 q16_110100110 q16_1101001100 q16_11010011000 q16_11010011001 q16_110100110010 q16_1101001100100 q16_1101001100101 q16_11010011001010 q16_11010011001011 q16_110100110011 q16_1101001100110 q16_1101001100111 q16_11010011001110 q16_11010011001111 q16_110100110011110 q16_110100110011111 q16_110100111 q16_111 q16_1110 q16_11100 q16_11101 q16_111010 q16_1110100 q16_11101000 q16_111010000 q16_111010001 q16_1110100010 q16_1110100011 q16_11101001 q16_111010010 q16_1110100100 q16_11101001000 q16_11101001001 q16_111010010010 q16_1110100100100 q16_11101001001000 q16_11101001001001 q16_111010010010010 q16_1110100100100100 q16_1110100100100101 q16_111010010010011 q16_1110100100100110 q16_11101001001001100 q16_111010010010011000 q16_111010010010011001 q16_1110100100100111 q16_111010011 q16_1111 q16_11110 q16_11111 q12_ q12_0 q12_1 q12_10 q12_11 q12_110 q12_1100 q12_1101 q12_11010 q12_110100 q12_1101000 q12_11010000 q12_11010001 q12_110100010 q12_110100011 q12_1101001 q12_11010010 q12_110100100 q12_1101001000 q12_1101001001 q12_11010010010 q12_11010010011 q12_110100100110 q12_110100100111 q12_11010011 q12_111 q12_1110 q12_11100 q12_11101 q12_111010 q12_1110100 q12_11101000 q12_111010000 q12_111010001 q12_1110100010 q12_1110100011 q12_11101001 q12_111010010 q12_1110100100 q12_11101001000 q12_11101001001 q12_111010010010 q12_1110100100100 q12_11101001001000 q12_111010010010000 q12_111010010010001 q12_1110100100100010 q12_1110100100100011 q12_11101001001001 q12_111010010010010 q12_1110100100100100 q12_111010010010011 q12_111010011 q12_1111 q12_11110 q12_11111 q7_ q7_0 q7_1 q7_10 q7_100 q7_101 q7_1010 q7_10100 q7_10101 q7_1011 q7_11 q7_110 q7_111 q7_1110 q7_11100 q7_11101 q7_111010 q7_1110100 q7_11101000 q7_11101001 q7_111010010 q7_1110100100 q7_1110100101 q7_111010011 q7_1110100110 q7_11101001100 q7_111010011000 q7_111010011001 q7_1110100111 q7_1111 q7_11110 q7_11111 q5_ q5_0 q5_1 q5_10 q5_100 q5_101 q5_1010 q5_10100 q5_10101 q5_1011 q5_11 q5_110 q5_111 q5_1110 q5_1111 q5_11110 q5_111100 q5_111101 q5_1111010 q5_11110100 q5_111101000 q5_1111010000 q5_1111010001 q5_11110100010 q5_11110100011 q5_111101001 q5_1111010010 q5_11110100100 q5_111101001000 q5_111101001001 q5_1111010010010 q5_1111010010011 q5_1111010011 q5_11111 q5_111110 q5_111111 q33_ q33_0 q33_1 q33_10 q33_11 q33_110 q33_1100 q33_1101 q33_11010 q33_110100 q33_110101 q33_11011 q33_111 q33_1110 q33_1111 q20_ q20_0 q20_1 q20_10 q20_11 q20_110 q20_1100 q20_1101 q20_11010 q20_110100 q20_110101 q20_11011 q20_111 q20_1110 q20_1111 q20_11110 q20_111100 q20_111101 q20_1111010 q20_11110100 q20_11110101 q20_1111011 q20_11111 q20_111110 q20_111111 q9_ q9_0 q9_1 q9_10 q9_11 q9_110 q9_1100 q9_1101 q9_11010 q9_110100 q9_110101 q9_11011 q9_111 q9_1110 q9_11100 q9_11101 q9_111010 q9_1110100 q9_11101000 q9_111010000 q9_111010001 q9_1110100010 q9_1110100011 q9_11101001 q9_111010010 q9_1110100100 q9_11101001000 q9_11101001001 q9_111010010010 q9_111010010011 q9_1110100100110 q9_11101001001100 q9_11101001001101 q9_1110100100111 q9_111010011 q9_1111 q9_11110 q9_11111 q10_ q10_0 q10_1 q10_10 q10_11 q10_110 q10_1100 q10_1101 q10_11010 q10_110100 q10_110101 q10_11011 q10_111 q10_1110 q10_1111 q4_ q4_0 q4_1 q4_10 q4_11 q4_110 q4_1100 q4_1101 q4_11010 q4_110100 q4_110101 q4_11011 q4_111 q4_1110 q4_1111 q4_11110 q4_111100 q4_111101 q4_1111010 q4_11110100 q4_11110101 q4_1111011 q4_11111 q4_111110 q4_111111 q36_ q36_0 q36_1 q36_10 q36_11 q36_110 q36_1100 q36_1101 q36_11010 q36_110100 q36_1101000 q36_11010000 q36_11010001 q36_110100010 q36_110100011 q36_1101001 q36_11010010 q36_110100100 q36_11010011 q36_111 q36_1110 q36_1111 q24_ q24_0 q24_1 q24_10 q24_11 q24_110 q24_111 q24_1110 q24_1111 q24_11110 q24_11111 q24_111110 q24_111111 q25_ q25_0 q25_1 q25_10 q25_11 q25_110 q25_111 q25_1110 q25_1111 q25_11110 q25_11111 q25_111110 q25_111111 q13_ q13_0 q13_1 q13_10 q13_11 q13_110 q13_1100 q13_1101 q13_11010 q13_110100 q13_1101000 q13_11010000 q13_11010001 q13_110100010 q13_110100011 q13_1101001 q13_11010010 q13_110100100 q13_11010011 q13_111 q13_1110 q13_1111 q14_ q14_0 q14_1 q14_10 q14_11 q14_110 q14_1100 q14_1101 q14_11010 q14_110100 q14_1101000 q14_11010000 q14_11010001 q14_110100010 q14_110100011 q14_1101001 q14_11010010 q14_110100100 q14_11010011 q14_111 q14_1110 q14_1111 q6_ q6_0 q6_1 q6_10 q6_11 q6_110 q6_111 q6_1110 q6_1111 q6_11110 q6_11111 q44_ q44_0 q44_1 q44_10 q44_100 q44_101 q44_1010 q44_10100 q44_10101 q44_1011 q44_11 q44_110 q44_1100 q44_1101 q44_11010 q44_110100 q44_1101000 q44_11010000 q44_11010001 q44_110100010 q44_110100011 q44_1101001 q44_11010010 q44_110100100 q44_1101001000 q44_1101001001 q44_11010010010 q44_110100100100 q44_110100100101 q44_11010010011 q44_11010011 q44_111 q44_1110 q44_1111 q31_ q31_0 q31_1 q31_10 q31_100 q31_101 q31_1010 q31_10100 q31_10101 q31_1011 q31_11 q31_110 q31_1100 q31_1101 q31_11010 q31_110100 q31_110101 q31_11011 q31_111 q31_1110 q31_11100 q31_11101 q31_111010 q31_1110100 q31_1110101 q31_111011 q31_1111 q31_11110 q31_11111 q32_ q32_0 q32_1 q32_10 q32_100 q32_101 q32_1010 q32_10100 q32_10101 q32_1011 q32_11 q32_110 q32_1100 q32_1101 q32_11010 q32_110100 q32_110101 q32_11011 q32_111 q32_1110 q32_11100 q32_11101 q32_111010 q32_1110100 q32_1110101 q32_111011 q32_1111 q32_11110 q32_11111 q18_ q18_0 q18_1 q18_10 q18_100 q18_101 q18_1010 q18_10100 q18_10101 q18_1011 q18_11 q18_110 q18_1100 q18_1101 q18_11010 q18_110100 q18_1101000 q18_11010000 q18_11010001 q18_110100010 q18_110100011 q18_1101001 q18_11010010 q18_110100100 q18_1101001000 q18_1101001001 q18_11010010010 q18_110100100100 q18_110100100101 q18_11010010011 q18_11010011 q18_111 q18_1110 q18_1111 q19_ q19_0 q19_1 q19_10 q19_100 q19_101 q19_1010 q19_10100 q19_10101 q19_1011 q19_11 q19_110 q19_1100 q19_1101 q19_11010 q19_110100 q19_1101000 q19_11010000 q19_11010001 q19_110100010 q19_110100011 q19_1101001 q19_11010010 q19_110100100 q19_1101001000 q19_1101001001 q19_11010010010 q19_110100100100 q19_110100100101 q19_11010010011 q19_11010011 q19_111 q19_1110 q19_1111 q8_ q8_0 q8_1 q8_10 q8_100 q8_101 q8_1010 q8_10100 q8_10101 q8_1011 q8_11 q8_110 q8_1100 q8_1101 q8_11010 q8_110100 q8_110101 q8_11011 q8_111 q8_1110 q8_1111 q3_ q3_0 q3_1 q3_10 q3_11 q3_110 q3_111 q3_1110 q3_11100 q3_11101 q3_111010 q3_1110100 q3_1110101 q3_111011 q3_1111 q3_11110 q3_11111 q3_111110 q3_111111 q3_1111110 q3_1111111 q3_11111110 q3_111111100 q3_111111101 q3_1111111010 q3_11111110100 q3_11111110101 q3_1111111011 q3_11111111 q3_111111110 q3_1111111100 q3_1111111101 q3_11111111010 q3_111111110100 q3_111111110101 q3_11111111011 q3_111111111 q3_1111111110 q3_1111111111 bin_add bin_sub bin_mul bin_lss bin_leq bin_gtr bin_geq un_not min_int max_int wrap64' wrap_u8 wrap_i32 wrap64_byte wrap8_byte wrap32_byte bin_eqB bin_neB bin_addB LN9 IX9
def rB (R : List Bool) : List (List D) := R.map fun b => [.v (.bool (b))]
theorem rB_len (R : List Bool) : (rB R).length = R.length := by simp [rB]
theorem rB_set (R : List Bool) (i : Nat) (b : Bool) : (rB R).set i [.v (.bool (b))] = rB (R.set i b) := by simp [rB, List.map_set]
theorem rB_take (R : List Bool) (n : Nat) (h : R.length ≤ n) : (rB R).take n = rB R := List.take_of_length_le (by rw [rB_len]; exact h)
theorem rB_rep (n : Nat) : List.replicate n [.v (.bool (false))] = rB (List.replicate n false) := by simp [rB]
def kidMark (R : List Bool) (ks : List Int) : List Bool := ks.foldl (fun R k => R.set k.toNat true) R
theorem kidMark_len (ks : List Int) : ∀ R : List Bool, (kidMark R ks).length = R.length := by
  induction ks with
  | nil => intro R; rfl
  | cons k ks ih => intro R; show (kidMark (R.set k.toNat true) ks).length = _; rw [ih]; simp
def ruleMark (R : List Bool) (r : GRule) : List Bool := if 0 ≤ r.If then (R.set r.Do.toNat true).set r.If.toNat true else R.set r.Do.toNat true
theorem ruleMark_len (R : List Bool) (r : GRule) : (ruleMark R r).length = R.length := by unfold ruleMark; split <;> simp
abbrev vP (p : GProgram) : Option Blk := some (.var [.d (.sl 3 (rN p.Nodes)), .d (.sl 3 (rR p.Rules))])
theorem reach_inner (p : GProgram) (i : Int) (n : Nat) (hi : 0 ≤ i ∧ i < n) (xs : List Int) (b : Bool) (hx : xs.length ≤ maxLen) (hk : ∀ k ∈ xs, 0 ≤ k ∧ k < i) : ∀ (m : Nat) (j : Int) (R : List Bool), 0 ≤ j → j + m = xs.length → R.length = n → R[i.toNat]? = some b →
    loopC Try.prog T (fnL Try.prog T L0) 16 (cq g16 [0, 0, 1, 0, 0, 1, 0, 0, 1, 0, 1, 1, 1]) ⟨[J, J, .one (.c (.ptr 0 0 0)), J, J, .one (.c (.arr 1 0 n)), J, J, .one (.c (.d (.v (.int .i64 (i))))), J, J, J, J, J, J, J, J, J, J, J, J, J, J, J, J, J, J, J, J, J, J, J, J, J, J, J, J, J, J, J, J, J, J, J, J, J, J, J, J, J, J, J, J, J, J, .one (.c (.d (.sl 1 (rI xs)))), .one (.c (.d (.v (.int .i64 ((xs.length : Int)))))), .one (.c (.d (.v (.int .i64 (j))))), J, J, J, J, J, J, J, J, J, J, J, J, J, J, J, J, J, J], hpOf [vP p, some (.arr 1 (rB R))], 2, 0⟩ =
      some (.exit 4, ⟨[J, J, .one (.c (.ptr 0 0 0)), J, J, .one (.c (.arr 1 0 n)), J, J, .one (.c (.d (.v (.int .i64 (i))))), J, J, J, J, J, J, J, J, J, J, J, J, J, J, J, J, J, J, J, J, J, J, J, J, J, J, J, J, J, J, J, J, J, J, J, J, J, J, J, J, J, J, J, J, J, J, J, J, J, J, J, J, J, J, J, J, J, J, J, J, J, J, J, J, J, J, J], hpOf [vP p, some (.arr 1 (rB (if b = true then kidMark R (xs.drop j.toNat) else R)))], 2, 0⟩)
  | 0, j, R, h0, hm, hl, hb => by
    have : maxLen = 9223372036854775807 := rfl
    rw [drop_end xs j (by omega)]
    have e : (if b = true then kidMark R [] else R) = R := by cases b <;> rfl
    rw [e]
    clear hk e
    have o := o16_1110100100100; simp only [OE, opsR, cqR, subR, chi, Try.f16] at o
    rw [loopC_round]
    (try simp (maxSteps := 4000000) (disch := first | assumption | omega) only [go_sem, *, rI, vP, o, pairsOk, ↓bin_eqI, ↓bin_neI, Nat.reduceAdd, Nat.reduceSub, Nat.reduceMul, Nat.reduceBEq, Nat.reduceLeDiff, Nat.reduceLT, Nat.reduceDiv, Nat.reduceMod, drwK_some, disj, ordered, ancs]); repeat' ((first | with_reducible first | refine caK (fun hb => ?_) fun hb => ?_ | refine caG (fun hb => ?_) fun hb => ?_ | refine caP (fun hb => ?_) fun hb => ?_ | refine caH (fun hb => ?_) fun hb => ?_ | refine caQ (fun hb => ?_) fun hb => ?_ | refine ite_cases (fun hb => ?_) fun hb => ?_) <;> try simp (maxSteps := 4000000) (disch := first | assumption | omega) only [go_sem, *, rI, vP, o, pairsOk, ↓bin_eqI, ↓bin_neI, Nat.reduceAdd, Nat.reduceSub, Nat.reduceMul, Nat.reduceBEq, Nat.reduceLeDiff, Nat.reduceLT, Nat.reduceDiv, Nat.reduceMod, drwK_some, disj, ordered, ancs])
  | m + 1, j, R, h0, hm, hl, hb => by
    have : maxLen = 9223372036854775807 := rfl
    have hd := drop_at xs j (by omega)
    obtain ⟨k1, k2⟩ := hk xs[j.toNat] (List.getElem_mem _)
    have hg : (rI xs)[j.toNat]? = some [.v (.int .i64 (xs[j.toNat]))] := map_get xs _ _ (by omega)
    rw [hd]
    clear hd
    generalize xs[j.toNat] = k at k1 k2 hg ⊢
    have hkl : k.toNat < R.length := by omega
    obtain ⟨c, hc⟩ : ∃ c, R[k.toNat]? = some c := ⟨_, List.getElem?_eq_getElem hkl⟩
    have ih := reach_inner p i n hi xs b hx hk m (j + 1) (R.set k.toNat (c || b)) (by omega) (by omega) (by simpa using hl) (by rw [List.getElem?_set_ne (by omega)]; exact hb)
    have g1 : (rB R)[k.toNat]? = some [.v (.bool (c))] := by simp [rB, hc]
    have g2 : (rB R)[i.toNat]? = some [.v (.bool (b))] := by simp [rB, hb]
    have e : (if b = true then kidMark R (k :: xs.drop (j + 1).toNat) else R) = (if b = true then kidMark (R.set k.toNat (c || b)) (xs.drop (j + 1).toNat) else R.set k.toNat (c || b)) := by
      cases b with
      | true => simp [kidMark]
      | false =>
        simp only [Bool.or_false, Bool.false_eq_true, if_false]
        apply List.ext_getElem?
        intro q
        rw [List.getElem?_set]
        split
        · rename_i h; subst h; simp [hkl]; rw [List.getElem?_eq_getElem hkl] at hc; exact Option.some.inj hc
        · rfl
    rw [e]
    have hrl : (rI xs).length = xs.length := by simp [rI]
    clear hk hc hb e
    have o := o16_1110100100100; simp only [OE, opsR, cqR, subR, chi, Try.f16] at o
    rw [loopC_round]
    cases c <;> cases b
    all_goals
      simp only [Bool.or_false, Bool.or_true, Bool.false_or, Bool.true_or, vP] at ih ⊢
      (try simp (maxSteps := 4000000) (disch := first | assumption | omega) only [go_sem, *, hg, hrl, g1, g2, rB_set, o, pairsOk, ↓bin_eqI, ↓bin_neI, Nat.reduceAdd, Nat.reduceSub, Nat.reduceMul, Nat.reduceBEq, Nat.reduceLeDiff, Nat.reduceLT, Nat.reduceDiv, Nat.reduceMod, drwK_some, disj, ordered, ancs]); repeat' ((first | with_reducible first | refine caK (fun hb => ?_) fun hb => ?_ | refine caG (fun hb => ?_) fun hb => ?_ | refine caP (fun hb => ?_) fun hb => ?_ | refine caH (fun hb => ?_) fun hb => ?_ | refine caQ (fun hb => ?_) fun hb => ?_ | refine ite_cases (fun hb => ?_) fun hb => ?_) <;> try simp (maxSteps := 4000000) (disch := first | assumption | omega) only [go_sem, *, hg, hrl, g1, g2, rB_set, o, pairsOk, ↓bin_eqI, ↓bin_neI, Nat.reduceAdd, Nat.reduceSub, Nat.reduceMul, Nat.reduceBEq, Nat.reduceLeDiff, Nat.reduceLT, Nat.reduceDiv, Nat.reduceMod, drwK_some, disj, ordered, ancs])
def kidsAt (p : GProgram) (i : Nat) : List Int := match p.Nodes[i]? with | some x => x.Kids | none => []
def nodeMark (p : GProgram) : Nat → List Bool → List Bool
  | 0, R => R
  | i + 1, R => nodeMark p i (if R[i]? = some true then kidMark R (kidsAt p i) else R)
/-- Kids lie ahead. -/
def KidsIn (p : GProgram) : Prop := ∀ (i : Nat) (x : GNode), p.Nodes[i]? = some x → x.Kids.length ≤ maxLen ∧ ∀ k ∈ x.Kids, 0 ≤ k ∧ k < (i : Int)
theorem reach_outer (p : GProgram) (n : Nat) (hn : p.Nodes.length = n) (hm : n ≤ 200) (hK : KidsIn p) : ∀ (i : Nat) (R : List Bool), i ≤ n → R.length = n →
    loopC Try.prog T (fnL Try.prog T L0) 16 (cq g16 [0, 0, 1, 0, 1, 1, 1]) ⟨[J, J, .one (.c (.ptr 0 0 0)), J, J, .one (.c (.arr 1 0 n)), J, J, .one (.c (.d (.v (.int .i64 ((i : Int) - 1))))), J, J, J, J, J, J, J, J, J, J, J, J, J, J, J, J, J, J, J, J, J, J, J, J, J, J, J, J, J, J, J, J, J, J, J, J, J, J, J, J, J, J, J, J, J, J, J, J, J, J, J, J, J, J, J, J, J, J, J, J, J, J, J, J, J, J, J], hpOf [vP p, some (.arr 1 (rB R))], 2, 0⟩ =
      some (.exit 2, ⟨[J, J, J, J, J, .one (.c (.arr 0 0 n)), J, J, J, J, J, J, J, J, J, J, J, J, J, J, J, J, J, J, J, J, J, J, J, J, J, J, J, J, J, J, J, J, J, J, J, J, J, J, J, J, J, J, J, J, J, J, J, J, J, J, J, J, J, J, J, J, J, J, J, J, J, J, J, J, J, J, J, J, J, J], hpOf [some (.arr 1 (rB (nodeMark p i R)))], 1, 0⟩)
  | 0, R, hi, hl => by
    clear hK
    rw [nodeMark]
    simp only [vP]
    have o := o16_1110100; simp only [OE, opsR, cqR, subR, chi, Try.f16] at o
    rw [loopC_round]
    (try simp (maxSteps := 4000000) (disch := first | assumption | omega) only [go_sem, *, vP, o, pairsOk, ↓bin_eqI, ↓bin_neI, Nat.reduceAdd, Nat.reduceSub, Nat.reduceMul, Nat.reduceBEq, Nat.reduceLeDiff, Nat.reduceLT, Nat.reduceDiv, Nat.reduceMod, drwK_some, disj, ordered, ancs]); repeat' ((first | with_reducible first | refine caK (fun hb => ?_) fun hb => ?_ | refine caG (fun hb => ?_) fun hb => ?_ | refine caP (fun hb => ?_) fun hb => ?_ | refine caH (fun hb => ?_) fun hb => ?_ | refine caQ (fun hb => ?_) fun hb => ?_ | refine ite_cases (fun hb => ?_) fun hb => ?_) <;> try simp (maxSteps := 4000000) (disch := first | assumption | omega) only [go_sem, *, vP, o, pairsOk, ↓bin_eqI, ↓bin_neI, Nat.reduceAdd, Nat.reduceSub, Nat.reduceMul, Nat.reduceBEq, Nat.reduceLeDiff, Nat.reduceLT, Nat.reduceDiv, Nat.reduceMod, drwK_some, disj, ordered, ancs])
  | i + 1, R, hi, hl => by
    have hil : i < p.Nodes.length := by omega
    have hg : (rN p.Nodes)[i]? = some (GNode.enc p.Nodes[i]) := rN_get _ _ hil
    obtain ⟨hkl, hk⟩ := hK i p.Nodes[i] (List.getElem?_eq_getElem hil)
    have hka : kidsAt p i = p.Nodes[i].Kids := by unfold kidsAt; rw [List.getElem?_eq_getElem hil]
    obtain ⟨b, hb⟩ : ∃ b, R[i]? = some b := ⟨_, List.getElem?_eq_getElem (by omega)⟩
    have L := reach_inner p i n ⟨by omega, by omega⟩ p.Nodes[i].Kids b hkl hk p.Nodes[i].Kids.length 0 R (by omega) (by omega) hl (by simpa using hb)
    have hR1 : (if R[i]? = some true then kidMark R (kidsAt p i) else R) = (if b = true then kidMark R p.Nodes[i].Kids else R) := by rw [hb, hka]; cases b <;> simp
    have ih := reach_outer p n hn hm hK i (if R[i]? = some true then kidMark R (kidsAt p i) else R) (by omega) (by split <;> simp [kidMark_len, hl])
    rw [nodeMark]
    rw [hR1] at ih ⊢
    rw [Int.toNat_zero, List.drop_zero] at L
    generalize (if b = true then kidMark R p.Nodes[i].Kids else R) = R1 at L ih ⊢
    have e1 : ((i + 1 : Nat) : Int) - 1 = (i : Int) := by omega
    rw [e1]
    generalize hgx : p.Nodes[i] = x at L hg hkl
    simp only [rI, vP] at L ih ⊢
    have hnl : (rN p.Nodes).length = n := by rw [rN_len, hn]
    clear hK hk hka hb hR1 hgx
    have o := o16_1110100; simp only [OE, opsR, cqR, subR, chi, Try.f16] at o
    rw [loopC_round]
    (try simp (maxSteps := 4000000) (disch := first | assumption | omega) only [go_sem, *, vP, hg, GNode.enc, L, hnl, o, pairsOk, ↓bin_eqI, ↓bin_neI, Nat.reduceAdd, Nat.reduceSub, Nat.reduceMul, Nat.reduceBEq, Nat.reduceLeDiff, Nat.reduceLT, Nat.reduceDiv, Nat.reduceMod, drwK_some, disj, ordered, ancs]); repeat' ((first | with_reducible first | refine caK (fun hb => ?_) fun hb => ?_ | refine caG (fun hb => ?_) fun hb => ?_ | refine caP (fun hb => ?_) fun hb => ?_ | refine caH (fun hb => ?_) fun hb => ?_ | refine caQ (fun hb => ?_) fun hb => ?_ | refine ite_cases (fun hb => ?_) fun hb => ?_) <;> try simp (maxSteps := 4000000) (disch := first | assumption | omega) only [go_sem, *, vP, hg, GNode.enc, L, hnl, o, pairsOk, ↓bin_eqI, ↓bin_neI, Nat.reduceAdd, Nat.reduceSub, Nat.reduceMul, Nat.reduceBEq, Nat.reduceLeDiff, Nat.reduceLT, Nat.reduceDiv, Nat.reduceMod, drwK_some, disj, ordered, ancs])
theorem reach_rules (p : GProgram) (n : Nat) (hn : p.Nodes.length = n) (hm : n ≤ 200) (hr : p.Rules.length ≤ 12) (hD : ∀ r ∈ p.Rules, (0 ≤ r.Do ∧ r.Do < n) ∧ r.If < n) : ∀ (m : Nat) (j : Int) (R : List Bool), 0 ≤ j → j + m = p.Rules.length → R.length = n →
    loopC Try.prog T (fnL Try.prog T L0) 16 (cq g16 [0, 0, 1, 0, 1, 1]) ⟨[J, .one (.c (.d (.v (.int .i64 (0))))), .one (.c (.ptr 0 0 0)), J, J, .one (.c (.arr 1 0 n)), J, J, J, J, J, J, J, J, J, J, .one (.c (.d (.sl 3 (rR p.Rules)))), .one (.c (.d (.v (.int .i64 ((p.Rules.length : Int)))))), .one (.c (.d (.v (.int .i64 (j))))), J, J, J, J, J, J, J, J, J, J, J, J, J, J, J, J, J, J, J, J, J, J, J, J, J, J, J, J, J, J, J, J, J, J, J, J, J, J, J, J, J, J, J, J, J, J, J, J, J, J, J, J, J, J, J, J, J], hpOf [vP p, some (.arr 1 (rB R))], 2, 0⟩ =
      some (.exit 0, ⟨[J, J, .one (.c (.ptr 0 0 0)), J, J, .one (.c (.arr 1 0 n)), J, J, J, J, J, J, J, J, J, J, J, J, J, J, J, J, J, J, J, J, J, J, J, J, J, J, J, J, J, J, J, J, J, J, J, J, J, J, J, J, J, J, J, J, J, J, J, J, J, J, J, J, J, J, J, J, J, J, J, J, J, J, J, J, J, J, J, J, J, J], hpOf [vP p, some (.arr 1 (rB ((p.Rules.drop j.toNat).foldl ruleMark R)))], 2, 0⟩)
  | 0, j, R, h0, hj, hl => by
    rw [drop_end p.Rules j (by omega), List.foldl_nil]
    clear hD
    simp only [vP]
    have o := o16_110100; simp only [OE, opsR, cqR, subR, chi, Try.f16] at o
    rw [loopC_round]
    (try simp (maxSteps := 4000000) (disch := first | assumption | omega) only [go_sem, *, vP, o, pairsOk, ↓bin_eqI, ↓bin_neI, Nat.reduceAdd, Nat.reduceSub, Nat.reduceMul, Nat.reduceBEq, Nat.reduceLeDiff, Nat.reduceLT, Nat.reduceDiv, Nat.reduceMod, drwK_some, disj, ordered, ancs]); repeat' ((first | with_reducible first | refine caK (fun hb => ?_) fun hb => ?_ | refine caG (fun hb => ?_) fun hb => ?_ | refine caP (fun hb => ?_) fun hb => ?_ | refine caH (fun hb => ?_) fun hb => ?_ | refine caQ (fun hb => ?_) fun hb => ?_ | refine ite_cases (fun hb => ?_) fun hb => ?_) <;> try simp (maxSteps := 4000000) (disch := first | assumption | omega) only [go_sem, *, vP, o, pairsOk, ↓bin_eqI, ↓bin_neI, Nat.reduceAdd, Nat.reduceSub, Nat.reduceMul, Nat.reduceBEq, Nat.reduceLeDiff, Nat.reduceLT, Nat.reduceDiv, Nat.reduceMod, drwK_some, disj, ordered, ancs])
  | m + 1, j, R, h0, hj, hl => by
    have hjl : j.toNat < p.Rules.length := by omega
    have hd := drop_at p.Rules j (by omega)
    have hg := rR_get p.Rules j.toNat hjl
    obtain ⟨⟨d1, d2⟩, d3⟩ := hD p.Rules[j.toNat] (List.getElem_mem _)
    rw [hd, List.foldl_cons]
    clear hd
    generalize p.Rules[j.toNat] = r at hg d1 d2 d3 ⊢
    have ih := reach_rules p n hn hm hr hD m (j + 1) (ruleMark R r) (by omega) (by omega) (by rw [ruleMark_len]; exact hl)
    have g1 : (rB R)[r.Do.toNat]? = some [.v (.bool (R[r.Do.toNat]'(by omega)))] := map_get R _ _ (by omega)
    clear hD
    by_cases hi : 0 ≤ r.If
    · have g2 : (rB (R.set r.Do.toNat true))[r.If.toNat]? = some [.v (.bool ((R.set r.Do.toNat true)[r.If.toNat]'(by simp; omega)))] := map_get (R.set r.Do.toNat true) _ _ (by simp; omega)
      have e : ruleMark R r = (R.set r.Do.toNat true).set r.If.toNat true := by unfold ruleMark; rw [if_pos hi]
      rw [e] at ih ⊢
      clear e
      simp only [vP] at ih ⊢
      have o := o16_110100; simp only [OE, opsR, cqR, subR, chi, Try.f16] at o
      rw [loopC_round]
      (try simp (maxSteps := 4000000) (disch := first | assumption | omega) only [go_sem, *, vP, hg, GRule.enc, g1, g2, rB_set, o, pairsOk, ↓bin_eql, ↓bin_neq, Nat.reduceAdd, Nat.reduceSub, Nat.reduceMul, Nat.reduceBEq, Nat.reduceLeDiff, Nat.reduceLT, Nat.reduceDiv, Nat.reduceMod, drwK_some, disj, ordered, ancs]); repeat' ((first | with_reducible first | refine caK (fun hb => ?_) fun hb => ?_ | refine caG (fun hb => ?_) fun hb => ?_ | refine caP (fun hb => ?_) fun hb => ?_ | refine caH (fun hb => ?_) fun hb => ?_ | refine caQ (fun hb => ?_) fun hb => ?_ | refine ite_cases (fun hb => ?_) fun hb => ?_) <;> try simp (maxSteps := 4000000) (disch := first | assumption | omega) only [go_sem, *, vP, hg, GRule.enc, g1, g2, rB_set, o, pairsOk, ↓bin_eql, ↓bin_neq, Nat.reduceAdd, Nat.reduceSub, Nat.reduceMul, Nat.reduceBEq, Nat.reduceLeDiff, Nat.reduceLT, Nat.reduceDiv, Nat.reduceMod, drwK_some, disj, ordered, ancs])
    · have e : ruleMark R r = R.set r.Do.toNat true := by unfold ruleMark; rw [if_neg hi]
      rw [e] at ih ⊢
      clear e
      simp only [vP] at ih ⊢
      have o := o16_110100; simp only [OE, opsR, cqR, subR, chi, Try.f16] at o
      rw [loopC_round]
      (try simp (maxSteps := 4000000) (disch := first | assumption | omega) only [go_sem, *, vP, hg, GRule.enc, g1, rB_set, o, pairsOk, ↓bin_eql, ↓bin_neq, Nat.reduceAdd, Nat.reduceSub, Nat.reduceMul, Nat.reduceBEq, Nat.reduceLeDiff, Nat.reduceLT, Nat.reduceDiv, Nat.reduceMod, drwK_some, disj, ordered, ancs]); repeat' ((first | with_reducible first | refine caK (fun hb => ?_) fun hb => ?_ | refine caG (fun hb => ?_) fun hb => ?_ | refine caP (fun hb => ?_) fun hb => ?_ | refine caH (fun hb => ?_) fun hb => ?_ | refine caQ (fun hb => ?_) fun hb => ?_ | refine ite_cases (fun hb => ?_) fun hb => ?_) <;> try simp (maxSteps := 4000000) (disch := first | assumption | omega) only [go_sem, *, vP, hg, GRule.enc, g1, rB_set, o, pairsOk, ↓bin_eql, ↓bin_neq, Nat.reduceAdd, Nat.reduceSub, Nat.reduceMul, Nat.reduceBEq, Nat.reduceLeDiff, Nat.reduceLT, Nat.reduceDiv, Nat.reduceMod, drwK_some, disj, ordered, ancs])
def reachL (p : GProgram) : List Bool := nodeMark p p.Nodes.length (p.Rules.foldl ruleMark (List.replicate p.Nodes.length false))
theorem nodeMark_len (p : GProgram) : ∀ (i : Nat) (R : List Bool), (nodeMark p i R).length = R.length
  | 0, R => rfl
  | i + 1, R => by rw [nodeMark, nodeMark_len p i]; split <;> simp [kidMark_len]
theorem rules_len : ∀ (rs : List GRule) (R : List Bool), (rs.foldl ruleMark R).length = R.length
  | [], R => rfl
  | r :: rs, R => by rw [List.foldl_cons, rules_len rs, ruleMark_len]
theorem reachL_len (p : GProgram) : (reachL p).length = p.Nodes.length := by unfold reachL; rw [nodeMark_len, rules_len]; simp
/-- What both walks ask of a program. -/
structure Fine (p : GProgram) : Prop where
  n : p.Nodes.length ≤ 200
  r : p.Rules.length ≤ 12
  kids : KidsIn p
  rules : ∀ r ∈ p.Rules, (0 ≤ r.Do ∧ r.Do < (p.Nodes.length : Int)) ∧ r.If < (p.Nodes.length : Int)
theorem reachedBy_ok (p : GProgram) (h : Fine p) : fnL Try.prog T L0 16 [.agg (p.enc.map .d), .c (.d (.v (.int .i64 (0))))] [] = some (.one (.c (.d (.sl 1 (rB (reachL p))))), []) := by
  obtain ⟨h1, h2, h3, h4⟩ := h
  have L1 := reach_rules p p.Nodes.length rfl h1 h2 h4 p.Rules.length 0 (List.replicate p.Nodes.length false) (by omega) (by omega) (by simp)
  have L2 := reach_outer p p.Nodes.length rfl h1 h3 p.Nodes.length (p.Rules.foldl ruleMark (List.replicate p.Nodes.length false)) (Nat.le_refl _) (by rw [rules_len]; simp)
  have hl := reachL_len p
  rw [Int.toNat_zero, List.drop_zero] at L1
  unfold reachL at hl ⊢
  generalize nodeMark p p.Nodes.length (p.Rules.foldl ruleMark (List.replicate p.Nodes.length false)) = R2 at L2 hl ⊢
  generalize p.Rules.foldl ruleMark (List.replicate p.Nodes.length false) = R1 at L1 L2
  have hroom : room = 70368744177664 := rfl
  clear h3 h4
  have hcast : ((p.Nodes.length : Int)).toNat = p.Nodes.length := by omega
  simp only [vP] at L1 L2
  refine fnL_run rfl N16 Try.func16 U16 ?_; have o := o16; simp only [OE, opsR, cqR, subR, chi, Try.f16] at o
  (try simp (maxSteps := 4000000) (disch := first | assumption | omega) only [go_sem, *, encP, rN_len, rR_len, rB_rep, L1, L2, rB_take, o, pairsOk, ↓bin_eqI, ↓bin_neI, Nat.reduceAdd, Nat.reduceSub, Nat.reduceMul, Nat.reduceBEq, Nat.reduceLeDiff, Nat.reduceLT, Nat.reduceDiv, Nat.reduceMod, drwK_some, disj, ordered, ancs]); repeat' ((first | with_reducible first | refine caK (fun hb => ?_) fun hb => ?_ | refine caG (fun hb => ?_) fun hb => ?_ | refine caP (fun hb => ?_) fun hb => ?_ | refine caH (fun hb => ?_) fun hb => ?_ | refine caQ (fun hb => ?_) fun hb => ?_ | refine ite_cases (fun hb => ?_) fun hb => ?_) <;> try simp (maxSteps := 4000000) (disch := first | assumption | omega) only [go_sem, *, encP, rN_len, rR_len, rB_rep, L1, L2, rB_take, o, pairsOk, ↓bin_eqI, ↓bin_neI, Nat.reduceAdd, Nat.reduceSub, Nat.reduceMul, Nat.reduceBEq, Nat.reduceLeDiff, Nat.reduceLT, Nat.reduceDiv, Nat.reduceMod, drwK_some, disj, ordered, ancs])
theorem sreach_inner (p : GProgram) (i : Int) (n : Nat) (hi : 0 ≤ i ∧ i < n) (x : GNode) (hg : (rN p.Nodes)[i.toNat]? = some x.enc) (b : Bool) (hx : x.Kids.length ≤ maxLen) (hk : ∀ k ∈ x.Kids, 0 ≤ k ∧ k < i) : ∀ (m : Nat) (j : Int) (R : List Bool), 0 ≤ j → j + m = x.Kids.length → R.length = n → R[i.toNat]? = some b →
    loopC Try.prog T (fnL Try.prog T L0) 12 (cq g12 [0, 0, 1, 0, 0, 1, 0, 0, 1, 0, 1, 1, 1]) ⟨[J, .one (.c (.ptr 0 0 0)), J, .one (.c (.arr 1 0 n)), J, .one (.c (.d (.v (.int .i64 (i))))), .one (.c (.d (.v (.int .i64 (j))))), J, J, J, J, J, J, J, J, J, J, J, J, J, J, J, J, J, J, J, J, J, J, J, J, J, J, J, J, J, J, J, J, J, J, J, J, J, J, J, J, J, J, J, J, J, J, J, J, J, J, J, J, J, J, J, J, J, J, J, J, J, J, J, J, J, J, J, J, J, J, J], hpOf [vP p, some (.arr 1 (rB R))], 2, 0⟩ =
      some (.exit 4, ⟨[J, .one (.c (.ptr 0 0 0)), J, .one (.c (.arr 1 0 n)), J, .one (.c (.d (.v (.int .i64 (i))))), J, J, J, J, J, J, J, J, J, J, J, J, J, J, J, J, J, J, J, J, J, J, J, J, J, J, J, J, J, J, J, J, J, J, J, J, J, J, J, J, J, J, J, J, J, J, J, J, J, J, J, J, J, J, J, J, J, J, J, J, J, J, J, J, J, J, J, J, J, J, J, J], hpOf [vP p, some (.arr 1 (rB (if b = true then kidMark R (x.Kids.drop j.toNat) else R)))], 2, 0⟩)
  | 0, j, R, h0, hm, hl, hb => by
    have : maxLen = 9223372036854775807 := rfl
    rw [drop_end x.Kids j (by omega)]
    have e : (if b = true then kidMark R [] else R) = R := by cases b <;> rfl
    rw [e]
    clear hk e hb
    simp only [vP]
    have o := o12_1110100100100; simp only [OE, opsR, cqR, subR, chi, Try.f12] at o
    rw [loopC_round]
    (try simp (maxSteps := 4000000) (disch := first | assumption | omega) only [go_sem, *, vP, hg, GNode.enc, o, pairsOk, ↓bin_eqI, ↓bin_neI, Nat.reduceAdd, Nat.reduceSub, Nat.reduceMul, Nat.reduceBEq, Nat.reduceLeDiff, Nat.reduceLT, Nat.reduceDiv, Nat.reduceMod, drwK_some, disj, ordered, ancs]); repeat' ((first | with_reducible first | refine caK (fun hb => ?_) fun hb => ?_ | refine caG (fun hb => ?_) fun hb => ?_ | refine caP (fun hb => ?_) fun hb => ?_ | refine caH (fun hb => ?_) fun hb => ?_ | refine caQ (fun hb => ?_) fun hb => ?_ | refine ite_cases (fun hb => ?_) fun hb => ?_) <;> try simp (maxSteps := 4000000) (disch := first | assumption | omega) only [go_sem, *, vP, hg, GNode.enc, o, pairsOk, ↓bin_eqI, ↓bin_neI, Nat.reduceAdd, Nat.reduceSub, Nat.reduceMul, Nat.reduceBEq, Nat.reduceLeDiff, Nat.reduceLT, Nat.reduceDiv, Nat.reduceMod, drwK_some, disj, ordered, ancs])
  | m + 1, j, R, h0, hm, hl, hb => by
    have : maxLen = 9223372036854775807 := rfl
    have g2 : (rB R)[i.toNat]? = some [.v (.bool (b))] := by simp [rB, hb]
    cases b with
    | false =>
      clear hk hb
      simp only [Bool.false_eq_true, if_false, vP]
      have o := o12_1110100100100; simp only [OE, opsR, cqR, subR, chi, Try.f12] at o
      rw [loopC_round]
      (try simp (maxSteps := 4000000) (disch := first | assumption | omega) only [go_sem, *, vP, hg, GNode.enc, g2, o, pairsOk, ↓bin_eqI, ↓bin_neI, Nat.reduceAdd, Nat.reduceSub, Nat.reduceMul, Nat.reduceBEq, Nat.reduceLeDiff, Nat.reduceLT, Nat.reduceDiv, Nat.reduceMod, drwK_some, disj, ordered, ancs]); repeat' ((first | with_reducible first | refine caK (fun hb => ?_) fun hb => ?_ | refine caG (fun hb => ?_) fun hb => ?_ | refine caP (fun hb => ?_) fun hb => ?_ | refine caH (fun hb => ?_) fun hb => ?_ | refine caQ (fun hb => ?_) fun hb => ?_ | refine ite_cases (fun hb => ?_) fun hb => ?_) <;> try simp (maxSteps := 4000000) (disch := first | assumption | omega) only [go_sem, *, vP, hg, GNode.enc, g2, o, pairsOk, ↓bin_eqI, ↓bin_neI, Nat.reduceAdd, Nat.reduceSub, Nat.reduceMul, Nat.reduceBEq, Nat.reduceLeDiff, Nat.reduceLT, Nat.reduceDiv, Nat.reduceMod, drwK_some, disj, ordered, ancs])
    | true =>
      have hd := drop_at x.Kids j (by omega)
      obtain ⟨k1, k2⟩ := hk x.Kids[j.toNat] (List.getElem_mem _)
      have hgk : (x.Kids.map fun y => [D.v (.int .i64 y)])[j.toNat]? = some [D.v (.int .i64 x.Kids[j.toNat])] := map_get x.Kids _ _ (by omega)
      rw [hd]
      clear hd
      generalize x.Kids[j.toNat] = k at k1 k2 hgk ⊢
      have hkl : k.toNat < R.length := by omega
      have ih := sreach_inner p i n hi x hg true hx hk m (j + 1) (R.set k.toNat true) (by omega) (by omega) (by simpa using hl) (by rw [List.getElem?_set_ne (by omega)]; exact hb)
      have g1 : (rB R)[k.toNat]? = some [.v (.bool (R[k.toNat]))] := map_get R _ _ hkl
      have e : (if true = true then kidMark R (k :: x.Kids.drop (j + 1).toNat) else R) = (if true = true then kidMark (R.set k.toNat true) (x.Kids.drop (j + 1).toNat) else R.set k.toNat true) := by simp [kidMark]
      rw [e]
      clear hk hb e
      simp only [vP] at ih ⊢
      have o := o12_1110100100100; simp only [OE, opsR, cqR, subR, chi, Try.f12] at o
      rw [loopC_round]
      (try simp (maxSteps := 4000000) (disch := first | assumption | omega) only [go_sem, *, vP, hg, GNode.enc, hgk, g1, g2, rB_set, o, pairsOk, ↓bin_eqI, ↓bin_neI, Nat.reduceAdd, Nat.reduceSub, Nat.reduceMul, Nat.reduceBEq, Nat.reduceLeDiff, Nat.reduceLT, Nat.reduceDiv, Nat.reduceMod, drwK_some, disj, ordered, ancs]); repeat' ((first | with_reducible first | refine caK (fun hb => ?_) fun hb => ?_ | refine caG (fun hb => ?_) fun hb => ?_ | refine caP (fun hb => ?_) fun hb => ?_ | refine caH (fun hb => ?_) fun hb => ?_ | refine caQ (fun hb => ?_) fun hb => ?_ | refine ite_cases (fun hb => ?_) fun hb => ?_) <;> try simp (maxSteps := 4000000) (disch := first | assumption | omega) only [go_sem, *, vP, hg, GNode.enc, hgk, g1, g2, rB_set, o, pairsOk, ↓bin_eqI, ↓bin_neI, Nat.reduceAdd, Nat.reduceSub, Nat.reduceMul, Nat.reduceBEq, Nat.reduceLeDiff, Nat.reduceLT, Nat.reduceDiv, Nat.reduceMod, drwK_some, disj, ordered, ancs])
theorem sreach_outer (p : GProgram) (n : Nat) (hn : p.Nodes.length = n) (hm : n ≤ 200) (hK : KidsIn p) : ∀ (i : Nat) (R : List Bool), i ≤ n → R.length = n →
    loopC Try.prog T (fnL Try.prog T L0) 12 (cq g12 [0, 0, 1, 0, 1, 1, 1]) ⟨[J, .one (.c (.ptr 0 0 0)), J, .one (.c (.arr 1 0 n)), J, .one (.c (.d (.v (.int .i64 ((i : Int) - 1))))), J, J, J, J, J, J, J, J, J, J, J, J, J, J, J, J, J, J, J, J, J, J, J, J, J, J, J, J, J, J, J, J, J, J, J, J, J, J, J, J, J, J, J, J, J, J, J, J, J, J, J, J, J, J, J, J, J, J, J, J, J, J, J, J, J, J, J, J, J, J, J, J], hpOf [vP p, some (.arr 1 (rB R))], 2, 0⟩ =
      some (.exit 2, ⟨[J, J, J, .one (.c (.arr 0 0 n)), J, J, J, J, J, J, J, J, J, J, J, J, J, J, J, J, J, J, J, J, J, J, J, J, J, J, J, J, J, J, J, J, J, J, J, J, J, J, J, J, J, J, J, J, J, J, J, J, J, J, J, J, J, J, J, J, J, J, J, J, J, J, J, J, J, J, J, J, J, J, J, J, J, J], hpOf [some (.arr 1 (rB (nodeMark p i R)))], 1, 0⟩)
  | 0, R, hi, hl => by
    clear hK
    rw [nodeMark]
    simp only [vP]
    have o := o12_1110100; simp only [OE, opsR, cqR, subR, chi, Try.f12] at o
    rw [loopC_round]
    (try simp (maxSteps := 4000000) (disch := first | assumption | omega) only [go_sem, *, vP, o, pairsOk, ↓bin_eqI, ↓bin_neI, Nat.reduceAdd, Nat.reduceSub, Nat.reduceMul, Nat.reduceBEq, Nat.reduceLeDiff, Nat.reduceLT, Nat.reduceDiv, Nat.reduceMod, drwK_some, disj, ordered, ancs]); repeat' ((first | with_reducible first | refine caK (fun hb => ?_) fun hb => ?_ | refine caG (fun hb => ?_) fun hb => ?_ | refine caP (fun hb => ?_) fun hb => ?_ | refine caH (fun hb => ?_) fun hb => ?_ | refine caQ (fun hb => ?_) fun hb => ?_ | refine ite_cases (fun hb => ?_) fun hb => ?_) <;> try simp (maxSteps := 4000000) (disch := first | assumption | omega) only [go_sem, *, vP, o, pairsOk, ↓bin_eqI, ↓bin_neI, Nat.reduceAdd, Nat.reduceSub, Nat.reduceMul, Nat.reduceBEq, Nat.reduceLeDiff, Nat.reduceLT, Nat.reduceDiv, Nat.reduceMod, drwK_some, disj, ordered, ancs])
  | i + 1, R, hi, hl => by
    have hil : i < p.Nodes.length := by omega
    have hg : (rN p.Nodes)[(i : Int).toNat]? = some (GNode.enc p.Nodes[i]) := rN_get _ _ hil
    obtain ⟨hkl, hk⟩ := hK i p.Nodes[i] (List.getElem?_eq_getElem hil)
    have hka : kidsAt p i = p.Nodes[i].Kids := by unfold kidsAt; rw [List.getElem?_eq_getElem hil]
    obtain ⟨b, hb⟩ : ∃ b, R[i]? = some b := ⟨_, List.getElem?_eq_getElem (by omega)⟩
    have L := sreach_inner p i n ⟨by omega, by omega⟩ p.Nodes[i] hg b hkl hk p.Nodes[i].Kids.length 0 R (by omega) (by omega) hl (by simpa using hb)
    have hR1 : (if R[i]? = some true then kidMark R (kidsAt p i) else R) = (if b = true then kidMark R p.Nodes[i].Kids else R) := by rw [hb, hka]; cases b <;> simp
    have ih := sreach_outer p n hn hm hK i (if R[i]? = some true then kidMark R (kidsAt p i) else R) (by omega) (by split <;> simp [kidMark_len, hl])
    rw [nodeMark]
    rw [hR1] at ih ⊢
    rw [Int.toNat_zero, List.drop_zero] at L
    generalize (if b = true then kidMark R p.Nodes[i].Kids else R) = R1 at L ih ⊢
    have e1 : ((i + 1 : Nat) : Int) - 1 = (i : Int) := by omega
    rw [e1]
    simp only [vP] at L ih ⊢
    clear hK hk hka hb hR1 hg
    have o := o12_1110100; simp only [OE, opsR, cqR, subR, chi, Try.f12] at o
    rw [loopC_round]
    (try simp (maxSteps := 4000000) (disch := first | assumption | omega) only [go_sem, *, vP, L, o, pairsOk, ↓bin_eqI, ↓bin_neI, Nat.reduceAdd, Nat.reduceSub, Nat.reduceMul, Nat.reduceBEq, Nat.reduceLeDiff, Nat.reduceLT, Nat.reduceDiv, Nat.reduceMod, drwK_some, disj, ordered, ancs]); repeat' ((first | with_reducible first | refine caK (fun hb => ?_) fun hb => ?_ | refine caG (fun hb => ?_) fun hb => ?_ | refine caP (fun hb => ?_) fun hb => ?_ | refine caH (fun hb => ?_) fun hb => ?_ | refine caQ (fun hb => ?_) fun hb => ?_ | refine ite_cases (fun hb => ?_) fun hb => ?_) <;> try simp (maxSteps := 4000000) (disch := first | assumption | omega) only [go_sem, *, vP, L, o, pairsOk, ↓bin_eqI, ↓bin_neI, Nat.reduceAdd, Nat.reduceSub, Nat.reduceMul, Nat.reduceBEq, Nat.reduceLeDiff, Nat.reduceLT, Nat.reduceDiv, Nat.reduceMod, drwK_some, disj, ordered, ancs])
theorem sreach_rules (p : GProgram) (n : Nat) (hn : p.Nodes.length = n) (hm : n ≤ 200) (hr : p.Rules.length ≤ 12) (hD : ∀ r ∈ p.Rules, (0 ≤ r.Do ∧ r.Do < n) ∧ r.If < n) : ∀ (m : Nat) (j : Int) (R : List Bool), 0 ≤ j → j + m = p.Rules.length → R.length = n →
    loopC Try.prog T (fnL Try.prog T L0) 12 (cq g12 [0, 0, 1, 0, 1, 1]) ⟨[J, .one (.c (.ptr 0 0 0)), J, .one (.c (.arr 1 0 n)), .one (.c (.d (.v (.int .i64 (j))))), J, J, J, J, J, J, J, J, J, J, J, J, J, J, J, J, J, J, J, J, J, J, J, J, J, J, J, J, J, J, J, J, J, J, J, J, J, J, J, J, J, J, J, J, J, J, J, J, J, J, J, J, J, J, J, J, J, J, J, J, J, J, J, J, J, J, J, J, J, J, J, J, J], hpOf [vP p, some (.arr 1 (rB R))], 2, 0⟩ =
      some (.exit 0, ⟨[J, .one (.c (.ptr 0 0 0)), J, .one (.c (.arr 1 0 n)), J, J, J, J, J, J, J, J, J, J, J, J, J, J, J, J, J, J, J, J, J, J, J, J, J, J, J, J, J, J, J, J, J, J, J, J, J, J, J, J, J, J, J, J, J, J, J, J, J, J, J, J, J, J, J, J, J, J, J, J, J, J, J, J, J, J, J, J, J, J, J, J, J, J], hpOf [vP p, some (.arr 1 (rB ((p.Rules.drop j.toNat).foldl ruleMark R)))], 2, 0⟩)
  | 0, j, R, h0, hj, hl => by
    rw [drop_end p.Rules j (by omega), List.foldl_nil]
    clear hD
    simp only [vP]
    have o := o12_110100; simp only [OE, opsR, cqR, subR, chi, Try.f12] at o
    rw [loopC_round]
    (try simp (maxSteps := 4000000) (disch := first | assumption | omega) only [go_sem, *, vP, rR_len, o, pairsOk, ↓bin_eqI, ↓bin_neI, Nat.reduceAdd, Nat.reduceSub, Nat.reduceMul, Nat.reduceBEq, Nat.reduceLeDiff, Nat.reduceLT, Nat.reduceDiv, Nat.reduceMod, drwK_some, disj, ordered, ancs]); repeat' ((first | with_reducible first | refine caK (fun hb => ?_) fun hb => ?_ | refine caG (fun hb => ?_) fun hb => ?_ | refine caP (fun hb => ?_) fun hb => ?_ | refine caH (fun hb => ?_) fun hb => ?_ | refine caQ (fun hb => ?_) fun hb => ?_ | refine ite_cases (fun hb => ?_) fun hb => ?_) <;> try simp (maxSteps := 4000000) (disch := first | assumption | omega) only [go_sem, *, vP, rR_len, o, pairsOk, ↓bin_eqI, ↓bin_neI, Nat.reduceAdd, Nat.reduceSub, Nat.reduceMul, Nat.reduceBEq, Nat.reduceLeDiff, Nat.reduceLT, Nat.reduceDiv, Nat.reduceMod, drwK_some, disj, ordered, ancs])
  | m + 1, j, R, h0, hj, hl => by
    have hjl : j.toNat < p.Rules.length := by omega
    have hd := drop_at p.Rules j (by omega)
    have hg := rR_get p.Rules j.toNat hjl
    obtain ⟨⟨d1, d2⟩, d3⟩ := hD p.Rules[j.toNat] (List.getElem_mem _)
    rw [hd, List.foldl_cons]
    clear hd
    generalize p.Rules[j.toNat] = r at hg d1 d2 d3 ⊢
    have ih := sreach_rules p n hn hm hr hD m (j + 1) (ruleMark R r) (by omega) (by omega) (by rw [ruleMark_len]; exact hl)
    have g1 : (rB R)[r.Do.toNat]? = some [.v (.bool (R[r.Do.toNat]'(by omega)))] := map_get R _ _ (by omega)
    clear hD
    by_cases hi : 0 ≤ r.If
    · have g2 : (rB (R.set r.Do.toNat true))[r.If.toNat]? = some [.v (.bool ((R.set r.Do.toNat true)[r.If.toNat]'(by simp; omega)))] := map_get (R.set r.Do.toNat true) _ _ (by simp; omega)
      have e : ruleMark R r = (R.set r.Do.toNat true).set r.If.toNat true := by unfold ruleMark; rw [if_pos hi]
      rw [e] at ih ⊢
      clear e
      simp only [vP] at ih ⊢
      have o := o12_110100; simp only [OE, opsR, cqR, subR, chi, Try.f12] at o
      rw [loopC_round]
      (try simp (maxSteps := 4000000) (disch := first | assumption | omega) only [go_sem, *, vP, hg, GRule.enc, g1, g2, rB_set, rR_len, o, pairsOk, ↓bin_eql, ↓bin_neq, Nat.reduceAdd, Nat.reduceSub, Nat.reduceMul, Nat.reduceBEq, Nat.reduceLeDiff, Nat.reduceLT, Nat.reduceDiv, Nat.reduceMod, drwK_some, disj, ordered, ancs]); repeat' ((first | with_reducible first | refine caK (fun hb => ?_) fun hb => ?_ | refine caG (fun hb => ?_) fun hb => ?_ | refine caP (fun hb => ?_) fun hb => ?_ | refine caH (fun hb => ?_) fun hb => ?_ | refine caQ (fun hb => ?_) fun hb => ?_ | refine ite_cases (fun hb => ?_) fun hb => ?_) <;> try simp (maxSteps := 4000000) (disch := first | assumption | omega) only [go_sem, *, vP, hg, GRule.enc, g1, g2, rB_set, rR_len, o, pairsOk, ↓bin_eql, ↓bin_neq, Nat.reduceAdd, Nat.reduceSub, Nat.reduceMul, Nat.reduceBEq, Nat.reduceLeDiff, Nat.reduceLT, Nat.reduceDiv, Nat.reduceMod, drwK_some, disj, ordered, ancs])
    · have e : ruleMark R r = R.set r.Do.toNat true := by unfold ruleMark; rw [if_neg hi]
      rw [e] at ih ⊢
      clear e
      simp only [vP] at ih ⊢
      have o := o12_110100; simp only [OE, opsR, cqR, subR, chi, Try.f12] at o
      rw [loopC_round]
      (try simp (maxSteps := 4000000) (disch := first | assumption | omega) only [go_sem, *, vP, hg, GRule.enc, g1, rB_set, rR_len, o, pairsOk, ↓bin_eql, ↓bin_neq, Nat.reduceAdd, Nat.reduceSub, Nat.reduceMul, Nat.reduceBEq, Nat.reduceLeDiff, Nat.reduceLT, Nat.reduceDiv, Nat.reduceMod, drwK_some, disj, ordered, ancs]); repeat' ((first | with_reducible first | refine caK (fun hb => ?_) fun hb => ?_ | refine caG (fun hb => ?_) fun hb => ?_ | refine caP (fun hb => ?_) fun hb => ?_ | refine caH (fun hb => ?_) fun hb => ?_ | refine caQ (fun hb => ?_) fun hb => ?_ | refine ite_cases (fun hb => ?_) fun hb => ?_) <;> try simp (maxSteps := 4000000) (disch := first | assumption | omega) only [go_sem, *, vP, hg, GRule.enc, g1, rB_set, rR_len, o, pairsOk, ↓bin_eql, ↓bin_neq, Nat.reduceAdd, Nat.reduceSub, Nat.reduceMul, Nat.reduceBEq, Nat.reduceLeDiff, Nat.reduceLT, Nat.reduceDiv, Nat.reduceMod, drwK_some, disj, ordered, ancs])
theorem l18Reach_ok (p : GProgram) (h : Fine p) : fnL Try.prog T L0 12 [.agg (p.enc.map .d)] [] = some (.one (.c (.d (.sl 1 (rB (reachL p))))), []) := by
  obtain ⟨h1, h2, h3, h4⟩ := h
  have L1 := sreach_rules p p.Nodes.length rfl h1 h2 h4 p.Rules.length 0 (List.replicate p.Nodes.length false) (by omega) (by omega) (by simp)
  have L2 := sreach_outer p p.Nodes.length rfl h1 h3 p.Nodes.length (p.Rules.foldl ruleMark (List.replicate p.Nodes.length false)) (Nat.le_refl _) (by rw [rules_len]; simp)
  have hl := reachL_len p
  rw [Int.toNat_zero, List.drop_zero] at L1
  unfold reachL at hl ⊢
  generalize nodeMark p p.Nodes.length (p.Rules.foldl ruleMark (List.replicate p.Nodes.length false)) = R2 at L2 hl ⊢
  generalize p.Rules.foldl ruleMark (List.replicate p.Nodes.length false) = R1 at L1 L2
  have hroom : room = 70368744177664 := rfl
  clear h3 h4
  have hcast : ((p.Nodes.length : Int)).toNat = p.Nodes.length := by omega
  simp only [vP] at L1 L2
  refine fnL_run rfl N12 Try.func12 U12 ?_; have o := o12; simp only [OE, opsR, cqR, subR, chi, Try.f12] at o
  (try simp (maxSteps := 4000000) (disch := first | assumption | omega) only [go_sem, *, encP, rN_len, rR_len, rB_rep, L1, L2, rB_take, o, pairsOk, ↓bin_eqI, ↓bin_neI, Nat.reduceAdd, Nat.reduceSub, Nat.reduceMul, Nat.reduceBEq, Nat.reduceLeDiff, Nat.reduceLT, Nat.reduceDiv, Nat.reduceMod, drwK_some, disj, ordered, ancs]); repeat' ((first | with_reducible first | refine caK (fun hb => ?_) fun hb => ?_ | refine caG (fun hb => ?_) fun hb => ?_ | refine caP (fun hb => ?_) fun hb => ?_ | refine caH (fun hb => ?_) fun hb => ?_ | refine caQ (fun hb => ?_) fun hb => ?_ | refine ite_cases (fun hb => ?_) fun hb => ?_) <;> try simp (maxSteps := 4000000) (disch := first | assumption | omega) only [go_sem, *, encP, rN_len, rR_len, rB_rep, L1, L2, rB_take, o, pairsOk, ↓bin_eqI, ↓bin_neI, Nat.reduceAdd, Nat.reduceSub, Nat.reduceMul, Nat.reduceBEq, Nat.reduceLeDiff, Nat.reduceLT, Nat.reduceDiv, Nat.reduceMod, drwK_some, disj, ordered, ancs])
def cntL : List Bool → Int
  | [] => 0
  | b :: bs => (if b = true then 1 else 0) + cntL bs
theorem rB_get (R : List Bool) (i : Nat) (h : i < R.length) : (rB R)[i]? = some [.v (.bool (R[i]))] := map_get R _ i h
theorem size_loop (R : List Bool) (hR : R.length ≤ 200) : ∀ (m : Nat) (i acc : Int), 0 ≤ i → i + m = R.length → 0 ≤ acc ∧ acc ≤ i →
    loopC Try.prog T (fnL Try.prog T L0) 7 (cq g7 [0, 0, 1, 0, 1, 1, 1]) ⟨[J, J, J, .one (.c (.d (.v (.int .i64 (acc))))), J, J, J, J, J, J, .one (.c (.d (.sl 1 (rB R)))), .one (.c (.d (.v (.int .i64 ((R.length : Int)))))), .one (.c (.d (.v (.int .i64 (i))))), J, J, J, J, J, J, J, J, J], hpOf [], 0, 0⟩ =
      some (.exit 0, ⟨[J, J, J, .one (.c (.d (.v (.int .i64 (acc + cntL (R.drop i.toNat)))))), J, J, J, J, J, J, J, J, J, J, J, J, J, J, J, J, J, J], hpOf [], 0, 0⟩)
  | 0, i, acc, h0, hm, ha => by
    rw [drop_end R i (by omega), cntL, Int.add_zero]
    have o := o7_1110100; simp only [OE, opsR, cqR, subR, chi, Try.f7] at o
    rw [loopC_round]
    (try simp (maxSteps := 4000000) (disch := first | assumption | omega) only [go_sem, *, rB_len, o, pairsOk, ↓bin_eqI, ↓bin_neI, Nat.reduceAdd, Nat.reduceSub, Nat.reduceMul, Nat.reduceBEq, Nat.reduceLeDiff, Nat.reduceLT, Nat.reduceDiv, Nat.reduceMod, drwK_some, disj, ordered, ancs]); repeat' ((first | with_reducible first | refine caK (fun hb => ?_) fun hb => ?_ | refine caG (fun hb => ?_) fun hb => ?_ | refine caP (fun hb => ?_) fun hb => ?_ | refine caH (fun hb => ?_) fun hb => ?_ | refine caQ (fun hb => ?_) fun hb => ?_ | refine ite_cases (fun hb => ?_) fun hb => ?_) <;> try simp (maxSteps := 4000000) (disch := first | assumption | omega) only [go_sem, *, rB_len, o, pairsOk, ↓bin_eqI, ↓bin_neI, Nat.reduceAdd, Nat.reduceSub, Nat.reduceMul, Nat.reduceBEq, Nat.reduceLeDiff, Nat.reduceLT, Nat.reduceDiv, Nat.reduceMod, drwK_some, disj, ordered, ancs])
  | m + 1, i, acc, h0, hm, ha => by
    have hd := drop_at R i (by omega)
    have hg := rB_get R i.toNat (by omega)
    rw [hd, cntL, ← Int.add_assoc]
    clear hd
    generalize R[i.toNat] = b at hg ⊢
    have ih := size_loop R hR m (i + 1) (acc + (if b = true then 1 else 0)) (by omega) (by omega) (by split <;> omega)
    have hf := flag_ok b
    cases b
    all_goals
      simp only [if_true, if_false, Bool.false_eq_true] at ih hf ⊢
      have o := o7_1110100; simp only [OE, opsR, cqR, subR, chi, Try.f7] at o
      rw [loopC_round]
      (try simp (maxSteps := 4000000) (disch := first | assumption | omega) only [go_sem, *, hg, hf, o, pairsOk, ↓bin_eqI, ↓bin_neI, Nat.reduceAdd, Nat.reduceSub, Nat.reduceMul, Nat.reduceBEq, Nat.reduceLeDiff, Nat.reduceLT, Nat.reduceDiv, Nat.reduceMod, drwK_some, disj, ordered, ancs]); repeat' ((first | with_reducible first | refine caK (fun hb => ?_) fun hb => ?_ | refine caG (fun hb => ?_) fun hb => ?_ | refine caP (fun hb => ?_) fun hb => ?_ | refine caH (fun hb => ?_) fun hb => ?_ | refine caQ (fun hb => ?_) fun hb => ?_ | refine ite_cases (fun hb => ?_) fun hb => ?_) <;> try simp (maxSteps := 4000000) (disch := first | assumption | omega) only [go_sem, *, hg, hf, o, pairsOk, ↓bin_eqI, ↓bin_neI, Nat.reduceAdd, Nat.reduceSub, Nat.reduceMul, Nat.reduceBEq, Nat.reduceLeDiff, Nat.reduceLT, Nat.reduceDiv, Nat.reduceMod, drwK_some, disj, ordered, ancs])
theorem ssize_loop (R : List Bool) (hR : R.length ≤ 200) : ∀ (m : Nat) (i acc : Int), 0 ≤ i → i + m = R.length → 0 ≤ acc ∧ acc ≤ i →
    loopC Try.prog T (fnL Try.prog T L0) 5 (cq g5 [0, 0, 1, 0, 1, 1, 1, 1]) ⟨[J, J, J, .one (.c (.d (.sl 1 (rB R)))), .one (.c (.d (.v (.int .i64 (acc))))), .one (.c (.d (.v (.int .i64 (i))))), J, J, J, J, J, J, J, J, J, J, J, J, J, J, J, J, J, J], hpOf [], 0, 0⟩ =
      some (.exit 0, ⟨[J, J, J, J, .one (.c (.d (.v (.int .i64 (acc + cntL (R.drop i.toNat)))))), J, J, J, J, J, J, J, J, J, J, J, J, J, J, J, J, J, J, J], hpOf [], 0, 0⟩)
  | 0, i, acc, h0, hm, ha => by
    rw [drop_end R i (by omega), cntL, Int.add_zero]
    have o := o5_11110100; simp only [OE, opsR, cqR, subR, chi, Try.f5] at o
    rw [loopC_round]
    (try simp (maxSteps := 4000000) (disch := first | assumption | omega) only [go_sem, *, rB_len, o, pairsOk, ↓bin_eqI, ↓bin_neI, Nat.reduceAdd, Nat.reduceSub, Nat.reduceMul, Nat.reduceBEq, Nat.reduceLeDiff, Nat.reduceLT, Nat.reduceDiv, Nat.reduceMod, drwK_some, disj, ordered, ancs]); repeat' ((first | with_reducible first | refine caK (fun hb => ?_) fun hb => ?_ | refine caG (fun hb => ?_) fun hb => ?_ | refine caP (fun hb => ?_) fun hb => ?_ | refine caH (fun hb => ?_) fun hb => ?_ | refine caQ (fun hb => ?_) fun hb => ?_ | refine ite_cases (fun hb => ?_) fun hb => ?_) <;> try simp (maxSteps := 4000000) (disch := first | assumption | omega) only [go_sem, *, rB_len, o, pairsOk, ↓bin_eqI, ↓bin_neI, Nat.reduceAdd, Nat.reduceSub, Nat.reduceMul, Nat.reduceBEq, Nat.reduceLeDiff, Nat.reduceLT, Nat.reduceDiv, Nat.reduceMod, drwK_some, disj, ordered, ancs])
  | m + 1, i, acc, h0, hm, ha => by
    have hd := drop_at R i (by omega)
    have hg := rB_get R i.toNat (by omega)
    rw [hd, cntL, ← Int.add_assoc]
    clear hd
    generalize R[i.toNat] = b at hg ⊢
    have ih := ssize_loop R hR m (i + 1) (acc + (if b = true then 1 else 0)) (by omega) (by omega) (by split <;> omega)
    cases b
    all_goals
      simp only [if_true, if_false, Bool.false_eq_true, Int.add_zero] at ih ⊢
      have o := o5_11110100; simp only [OE, opsR, cqR, subR, chi, Try.f5] at o
      rw [loopC_round]
      (try simp (maxSteps := 4000000) (disch := first | assumption | omega) only [go_sem, *, hg, rB_len, o, pairsOk, ↓bin_eqI, ↓bin_neI, Nat.reduceAdd, Nat.reduceSub, Nat.reduceMul, Nat.reduceBEq, Nat.reduceLeDiff, Nat.reduceLT, Nat.reduceDiv, Nat.reduceMod, drwK_some, disj, ordered, ancs]); repeat' ((first | with_reducible first | refine caK (fun hb => ?_) fun hb => ?_ | refine caG (fun hb => ?_) fun hb => ?_ | refine caP (fun hb => ?_) fun hb => ?_ | refine caH (fun hb => ?_) fun hb => ?_ | refine caQ (fun hb => ?_) fun hb => ?_ | refine ite_cases (fun hb => ?_) fun hb => ?_) <;> try simp (maxSteps := 4000000) (disch := first | assumption | omega) only [go_sem, *, hg, rB_len, o, pairsOk, ↓bin_eqI, ↓bin_neI, Nat.reduceAdd, Nat.reduceSub, Nat.reduceMul, Nat.reduceBEq, Nat.reduceLeDiff, Nat.reduceLT, Nat.reduceDiv, Nat.reduceMod, drwK_some, disj, ordered, ancs])
theorem nodesOK_get (rd : List UInt8 → Bool) (p : GProgram) : ∀ (xs : List GNode) (i : Int), nodesOK rd p xs i = true → ∀ (j : Nat) (x : GNode), xs[j]? = some x → nodeOK rd p x (i + j) = true
  | [], i, h, j, x, hx => by simp at hx
  | y :: ys, i, h, j, x, hx => by
    rw [nodesOK, Bool.and_eq_true] at h
    cases j with
    | zero => simp at hx; subst hx; simpa using h.1
    | succ j =>
      have := nodesOK_get rd p ys (i + 1) h.2 j x (by simpa using hx)
      rw [show i + ((j + 1 : Nat) : Int) = i + 1 + (j : Int) by omega]
      exact this
theorem fine_of (rd : List UInt8 → Bool) (p : GProgram) (hp : p.ok) (h : progOK rd p = true) : Fine p := by
  unfold progOK at h
  simp only [Bool.and_eq_true, decide_eq_true_eq] at h
  obtain ⟨⟨⟨h1, h2⟩, h3⟩, h4⟩ := h
  refine ⟨by omega, by omega, fun i x hx => ?_, fun r hr => ?_⟩
  · have hn := nodesOK_get rd p p.Nodes 0 h1 i x hx
    unfold nodeOK at hn
    simp only [Bool.and_eq_true, decide_eq_true_eq, List.all_eq_true] at hn
    obtain ⟨⟨⟨_, hk⟩, _⟩, _⟩ := hn
    refine ⟨(hp.1.2 x (List.mem_of_getElem? hx)).2.2.1, fun k hk' => ?_⟩
    have := hk k hk'
    omega
  · have hr2 := List.all_eq_true.1 h2 r hr
    unfold ruleOK at hr2
    simp only [Bool.and_eq_true, Bool.or_eq_true, decide_eq_true_eq] at hr2
    obtain ⟨⟨⟨_, hd⟩, _⟩, hi⟩ := hr2
    refine ⟨by omega, ?_⟩
    rcases hi with hi | hi
    · omega
    · omega
def sizeL (rd : List UInt8 → Bool) (p : GProgram) : Int := if progOK rd p = true then cntL (reachL p) else 0
theorem sizeOf_ok (rd : List UInt8 → Bool) (hR : Reads 40 rd) (h24 : ∀ s, rd s = true → s.length ≤ 24) (p : GProgram) (hp : p.ok) : fnL Try.prog T L0 7 [.agg (p.enc.map .d)] [] = some (.one (.c (.d (.v (.int .i64 (sizeL rd p))))), []) := by
  have hP := progOk_ok rd hR h24 p hp
  have hf := fine_of rd p hp
  unfold sizeL
  generalize progOK rd p = t at hP hf ⊢
  clear hR h24
  cases t with
  | false =>
    clear hf
    simp only [Bool.false_eq_true, if_false]
    simp only [encP, List.map_cons, List.map_nil] at hP
    refine fnL_run rfl N7 Try.func7 U7 ?_; have o := o7; simp only [OE, opsR, cqR, subR, chi, Try.f7] at o
    (try simp (maxSteps := 4000000) (disch := first | assumption | omega) only [go_sem, *, encP, hP, o, pairsOk, ↓bin_eqI, ↓bin_neI, Nat.reduceAdd, Nat.reduceSub, Nat.reduceMul, Nat.reduceBEq, Nat.reduceLeDiff, Nat.reduceLT, Nat.reduceDiv, Nat.reduceMod, drwK_some, disj, ordered, ancs]); repeat' ((first | with_reducible first | refine caK (fun hb => ?_) fun hb => ?_ | refine caG (fun hb => ?_) fun hb => ?_ | refine caP (fun hb => ?_) fun hb => ?_ | refine caH (fun hb => ?_) fun hb => ?_ | refine caQ (fun hb => ?_) fun hb => ?_ | refine ite_cases (fun hb => ?_) fun hb => ?_) <;> try simp (maxSteps := 4000000) (disch := first | assumption | omega) only [go_sem, *, encP, hP, o, pairsOk, ↓bin_eqI, ↓bin_neI, Nat.reduceAdd, Nat.reduceSub, Nat.reduceMul, Nat.reduceBEq, Nat.reduceLeDiff, Nat.reduceLT, Nat.reduceDiv, Nat.reduceMod, drwK_some, disj, ordered, ancs])
  | true =>
    have hfp := hf rfl
    have hr := reachedBy_ok p hfp
    have hl := reachL_len p
    have h200 := hfp.n
    have L := size_loop (reachL p) (by omega) (reachL p).length 0 0 (by omega) (by omega) (by omega)
    rw [Int.toNat_zero, List.drop_zero, Int.zero_add, hl] at L
    simp only [encP, List.map_cons, List.map_nil] at hP hr
    clear hf hfp hp
    simp only [if_true]
    refine fnL_run rfl N7 Try.func7 U7 ?_; have o := o7; simp only [OE, opsR, cqR, subR, chi, Try.f7] at o
    (try simp (maxSteps := 4000000) (disch := first | assumption | omega) only [go_sem, *, encP, hP, hr, rB_len, L, o, pairsOk, ↓bin_eqI, ↓bin_neI, Nat.reduceAdd, Nat.reduceSub, Nat.reduceMul, Nat.reduceBEq, Nat.reduceLeDiff, Nat.reduceLT, Nat.reduceDiv, Nat.reduceMod, drwK_some, disj, ordered, ancs]); repeat' ((first | with_reducible first | refine caK (fun hb => ?_) fun hb => ?_ | refine caG (fun hb => ?_) fun hb => ?_ | refine caP (fun hb => ?_) fun hb => ?_ | refine caH (fun hb => ?_) fun hb => ?_ | refine caQ (fun hb => ?_) fun hb => ?_ | refine ite_cases (fun hb => ?_) fun hb => ?_) <;> try simp (maxSteps := 4000000) (disch := first | assumption | omega) only [go_sem, *, encP, hP, hr, rB_len, L, o, pairsOk, ↓bin_eqI, ↓bin_neI, Nat.reduceAdd, Nat.reduceSub, Nat.reduceMul, Nat.reduceBEq, Nat.reduceLeDiff, Nat.reduceLT, Nat.reduceDiv, Nat.reduceMod, drwK_some, disj, ordered, ancs])
theorem ssizeOf_ok (rd : List UInt8 → Bool) (hR : Reads 48 rd) (h24 : ∀ s, rd s = true → s.length ≤ 24) (p : GProgram) (hp : p.ok) : fnL Try.prog T L0 5 [.agg (p.enc.map .d)] [] = some (.one (.c (.d (.v (.int .i64 (sizeL rd p))))), []) := by
  have hP := sProgOk_ok rd hR h24 p hp
  have hf := fine_of rd p hp
  unfold sizeL
  generalize progOK rd p = t at hP hf ⊢
  clear hR h24
  cases t with
  | false =>
    clear hf
    simp only [Bool.false_eq_true, if_false]
    simp only [encP, List.map_cons, List.map_nil] at hP
    refine fnL_run rfl N5 Try.func5 U5 ?_; have o := o5; simp only [OE, opsR, cqR, subR, chi, Try.f5] at o
    (try simp (maxSteps := 4000000) (disch := first | assumption | omega) only [go_sem, *, encP, hP, o, pairsOk, ↓bin_eqI, ↓bin_neI, Nat.reduceAdd, Nat.reduceSub, Nat.reduceMul, Nat.reduceBEq, Nat.reduceLeDiff, Nat.reduceLT, Nat.reduceDiv, Nat.reduceMod, drwK_some, disj, ordered, ancs]); repeat' ((first | with_reducible first | refine caK (fun hb => ?_) fun hb => ?_ | refine caG (fun hb => ?_) fun hb => ?_ | refine caP (fun hb => ?_) fun hb => ?_ | refine caH (fun hb => ?_) fun hb => ?_ | refine caQ (fun hb => ?_) fun hb => ?_ | refine ite_cases (fun hb => ?_) fun hb => ?_) <;> try simp (maxSteps := 4000000) (disch := first | assumption | omega) only [go_sem, *, encP, hP, o, pairsOk, ↓bin_eqI, ↓bin_neI, Nat.reduceAdd, Nat.reduceSub, Nat.reduceMul, Nat.reduceBEq, Nat.reduceLeDiff, Nat.reduceLT, Nat.reduceDiv, Nat.reduceMod, drwK_some, disj, ordered, ancs])
  | true =>
    have hfp := hf rfl
    have hr := l18Reach_ok p hfp
    have hl := reachL_len p
    have h200 := hfp.n
    have L := ssize_loop (reachL p) (by omega) (reachL p).length 0 0 (by omega) (by omega) (by omega)
    rw [Int.toNat_zero, List.drop_zero, Int.zero_add] at L
    simp only [encP, List.map_cons, List.map_nil] at hP hr
    clear hf hfp hp
    simp only [if_true]
    refine fnL_run rfl N5 Try.func5 U5 ?_; have o := o5; simp only [OE, opsR, cqR, subR, chi, Try.f5] at o
    (try simp (maxSteps := 4000000) (disch := first | assumption | omega) only [go_sem, *, encP, hP, hr, rB_len, L, o, pairsOk, ↓bin_eqI, ↓bin_neI, Nat.reduceAdd, Nat.reduceSub, Nat.reduceMul, Nat.reduceBEq, Nat.reduceLeDiff, Nat.reduceLT, Nat.reduceDiv, Nat.reduceMod, drwK_some, disj, ordered, ancs]); repeat' ((first | with_reducible first | refine caK (fun hb => ?_) fun hb => ?_ | refine caG (fun hb => ?_) fun hb => ?_ | refine caP (fun hb => ?_) fun hb => ?_ | refine caH (fun hb => ?_) fun hb => ?_ | refine caQ (fun hb => ?_) fun hb => ?_ | refine ite_cases (fun hb => ?_) fun hb => ?_) <;> try simp (maxSteps := 4000000) (disch := first | assumption | omega) only [go_sem, *, encP, hP, hr, rB_len, L, o, pairsOk, ↓bin_eqI, ↓bin_neI, Nat.reduceAdd, Nat.reduceSub, Nat.reduceMul, Nat.reduceBEq, Nat.reduceLeDiff, Nat.reduceLT, Nat.reduceDiv, Nat.reduceMod, drwK_some, disj, ordered, ancs])
/-! The statement's own functions: measured, turned, held against itself -/
def szI (xs : List Int) (left : Int) : Int := if left - xs.length < 0 then -1 else left - xs.length
theorem szIntS_ok (xs : List Int) (left : Int) (h : 0 ≤ left ∧ left ≤ 1048576) (hm : xs.length ≤ maxLen) : fnL Try.prog T L0 33 [.c (.d (.sl 1 (rI xs))), .c (.d (.v (.int .i64 (left))))] [] = some (.one (.c (.d (.v (.int .i64 (szI xs left))))), []) := by
  have : maxLen = 9223372036854775807 := rfl
  have hl : (rI xs).length = xs.length := by simp [rI]
  unfold szI
  refine fnL_run rfl N33 Try.func33 U33 ?_; have o := o33; simp only [OE, opsR, cqR, subR, chi, Try.f33] at o
  (try simp (maxSteps := 4000000) (disch := first | assumption | omega) only [go_sem, *, hl, o, pairsOk, ↓bin_eql, ↓bin_neq, Nat.reduceAdd, Nat.reduceSub, Nat.reduceMul, Nat.reduceBEq, Nat.reduceLeDiff, Nat.reduceLT, Nat.reduceDiv, Nat.reduceMod, drwK_some, disj, ordered, ancs]); repeat' ((first | with_reducible first | refine caK (fun hb => ?_) fun hb => ?_ | refine caG (fun hb => ?_) fun hb => ?_ | refine caP (fun hb => ?_) fun hb => ?_ | refine caH (fun hb => ?_) fun hb => ?_ | refine caQ (fun hb => ?_) fun hb => ?_ | refine ite_cases (fun hb => ?_) fun hb => ?_) <;> try simp (maxSteps := 4000000) (disch := first | assumption | omega) only [go_sem, *, hl, o, pairsOk, ↓bin_eql, ↓bin_neq, Nat.reduceAdd, Nat.reduceSub, Nat.reduceMul, Nat.reduceBEq, Nat.reduceLeDiff, Nat.reduceLT, Nat.reduceDiv, Nat.reduceMod, drwK_some, disj, ordered, ancs])
def szN (x : GNode) (left : Int) : Int := if left - x.Text.length < 0 then -1 else szI x.Kids (left - x.Text.length)
theorem szI_le (xs : List Int) (left : Int) (h : 0 ≤ left) : szI xs left ≤ left ∧ -1 ≤ szI xs left := by unfold szI; split <;> omega
theorem szN_le (x : GNode) (left : Int) (h : 0 ≤ left) : szN x left ≤ left ∧ -1 ≤ szN x left := by
  unfold szN
  split
  · omega
  · have := szI_le x.Kids (left - x.Text.length) (by omega)
    omega
theorem szNode_ok (x : GNode) (left : Int) (h : 0 ≤ left ∧ left ≤ 1048576) (ht : x.Text.length ≤ maxLen) (hk : x.Kids.length ≤ maxLen) : fnL Try.prog T L0 20 [.agg (x.enc.map .d), .c (.d (.v (.int .i64 (left))))] [] = some (.one (.c (.d (.v (.int .i64 (szN x left))))), []) := by
  have : maxLen = 9223372036854775807 := rfl
  have hs := fun h1 h2 => szIntS_ok x.Kids (left - x.Text.length) ⟨h1, h2⟩ hk
  have hle := fun h1 => szI_le x.Kids (left - x.Text.length) h1
  unfold szN
  simp only [rI] at hs
  by_cases hlt : left - (x.Text.length : Int) < 0
  · simp only [if_pos hlt]
    clear hs hle
    refine fnL_run rfl N20 Try.func20 U20 ?_; have o := o20; simp only [OE, opsR, cqR, subR, chi, Try.f20] at o
    (try simp (maxSteps := 4000000) (disch := first | assumption | omega) only [go_sem, *, encN, rI, GNode.enc, o, pairsOk, ↓bin_eql, ↓bin_neq, Nat.reduceAdd, Nat.reduceSub, Nat.reduceMul, Nat.reduceBEq, Nat.reduceLeDiff, Nat.reduceLT, Nat.reduceDiv, Nat.reduceMod, drwK_some, disj, ordered, ancs]); repeat' ((first | with_reducible first | refine caK (fun hb => ?_) fun hb => ?_ | refine caG (fun hb => ?_) fun hb => ?_ | refine caP (fun hb => ?_) fun hb => ?_ | refine caH (fun hb => ?_) fun hb => ?_ | refine caQ (fun hb => ?_) fun hb => ?_ | refine ite_cases (fun hb => ?_) fun hb => ?_) <;> try simp (maxSteps := 4000000) (disch := first | assumption | omega) only [go_sem, *, encN, rI, GNode.enc, o, pairsOk, ↓bin_eql, ↓bin_neq, Nat.reduceAdd, Nat.reduceSub, Nat.reduceMul, Nat.reduceBEq, Nat.reduceLeDiff, Nat.reduceLT, Nat.reduceDiv, Nat.reduceMod, drwK_some, disj, ordered, ancs])
  · simp only [if_neg hlt]
    have hs := hs (by omega) (by omega)
    obtain ⟨l1, l2⟩ := hle (by omega)
    clear hle
    generalize szI x.Kids (left - x.Text.length) = r at hs l1 l2 ⊢
    refine fnL_run rfl N20 Try.func20 U20 ?_; have o := o20; simp only [OE, opsR, cqR, subR, chi, Try.f20] at o
    (try simp (maxSteps := 4000000) (disch := first | assumption | omega) only [go_sem, *, encN, rI, GNode.enc, hs, o, pairsOk, ↓bin_eql, ↓bin_neq, Nat.reduceAdd, Nat.reduceSub, Nat.reduceMul, Nat.reduceBEq, Nat.reduceLeDiff, Nat.reduceLT, Nat.reduceDiv, Nat.reduceMod, drwK_some, disj, ordered, ancs]); repeat' ((first | with_reducible first | refine caK (fun hb => ?_) fun hb => ?_ | refine caG (fun hb => ?_) fun hb => ?_ | refine caP (fun hb => ?_) fun hb => ?_ | refine caH (fun hb => ?_) fun hb => ?_ | refine caQ (fun hb => ?_) fun hb => ?_ | refine ite_cases (fun hb => ?_) fun hb => ?_) <;> try simp (maxSteps := 4000000) (disch := first | assumption | omega) only [go_sem, *, encN, rI, GNode.enc, hs, o, pairsOk, ↓bin_eql, ↓bin_neq, Nat.reduceAdd, Nat.reduceSub, Nat.reduceMul, Nat.reduceBEq, Nat.reduceLeDiff, Nat.reduceLT, Nat.reduceDiv, Nat.reduceMod, drwK_some, disj, ordered, ancs])
    all_goals first | rfl | (congr 7; omega)
def szNs : List GNode → Int → Int
  | [], l => l
  | x :: xs, l => if szN x l < 0 then -1 else szNs xs (szN x l)
theorem szNs_le : ∀ (xs : List GNode) (l : Int), 0 ≤ l → szNs xs l ≤ l ∧ -1 ≤ szNs xs l
  | [], l, h => by unfold szNs; omega
  | x :: xs, l, h => by
    have h1 := szN_le x l h
    unfold szNs
    split
    · omega
    · have := szNs_le xs (szN x l) (by omega)
      omega
theorem szNodeS_loop (xs : List GNode) (hx : xs.length ≤ 1048576) (hok : ∀ x ∈ xs, x.Text.length ≤ maxLen ∧ x.Kids.length ≤ maxLen) : ∀ (m : Nat) (i l : Int), 0 ≤ i → i + m = xs.length → 0 ≤ l ∧ l ≤ 1048576 →
    loopC Try.prog T (fnL Try.prog T L0) 9 (cq g9 [0, 0, 1, 0, 1, 1, 1]) ⟨[.one (.c (.d (.sl 3 (rN xs)))), .one (.c (.d (.v (.int .i64 (l))))), J, J, J, .one (.c (.d (.v (.int .i64 (i))))), J, J, J, J, J, J, J, J, J, J, J, J, J, J, J, J, J, J, J, J, J], hpOf [], 0, 0⟩ =
      if szNs (xs.drop i.toNat) l < 0 then some (.ret, ⟨[J, .one (.c (.d (.v (.int .i64 (-1))))), J, J, .one (.c (.d (.v (.int .i64 (-1))))), J, J, J, J, J, J, J, J, J, J, J, J, J, J, J, J, J, J, J, J, J, J], hpOf [], 0, 0⟩) else some (.exit 0, ⟨[J, .one (.c (.d (.v (.int .i64 (szNs (xs.drop i.toNat) l))))), J, J, J, J, J, J, J, J, J, J, J, J, J, J, J, J, J, J, J, J, J, J, J, J, J], hpOf [], 0, 0⟩)
  | 0, i, l, h0, hm, hl => by
    rw [drop_end xs i (by omega), szNs, if_neg (by omega)]
    clear hok
    have o := o9_1110100; simp only [OE, opsR, cqR, subR, chi, Try.f9] at o
    rw [loopC_round]
    (try simp (maxSteps := 4000000) (disch := first | assumption | omega) only [go_sem, *, rN_len, o, pairsOk, ↓bin_eql, ↓bin_neq, Nat.reduceAdd, Nat.reduceSub, Nat.reduceMul, Nat.reduceBEq, Nat.reduceLeDiff, Nat.reduceLT, Nat.reduceDiv, Nat.reduceMod, drwK_some, disj, ordered, ancs]); repeat' ((first | with_reducible first | refine caK (fun hb => ?_) fun hb => ?_ | refine caG (fun hb => ?_) fun hb => ?_ | refine caP (fun hb => ?_) fun hb => ?_ | refine caH (fun hb => ?_) fun hb => ?_ | refine caQ (fun hb => ?_) fun hb => ?_ | refine ite_cases (fun hb => ?_) fun hb => ?_) <;> try simp (maxSteps := 4000000) (disch := first | assumption | omega) only [go_sem, *, rN_len, o, pairsOk, ↓bin_eql, ↓bin_neq, Nat.reduceAdd, Nat.reduceSub, Nat.reduceMul, Nat.reduceBEq, Nat.reduceLeDiff, Nat.reduceLT, Nat.reduceDiv, Nat.reduceMod, drwK_some, disj, ordered, ancs])
  | m + 1, i, l, h0, hm, hl => by
    have hil : i.toNat < xs.length := by omega
    have hd := drop_at xs i (by omega)
    have hg := rN_get xs i.toNat hil
    obtain ⟨ht, hk⟩ := hok xs[i.toNat] (List.getElem_mem _)
    rw [hd, szNs]
    clear hd
    generalize xs[i.toNat] = x at hg ht hk ⊢
    have hs := szNode_ok x l hl ht hk
    obtain ⟨l1, l2⟩ := szN_le x l hl.1
    simp only [encN, rI] at hs
    by_cases hn : szN x l < 0
    · have e : szN x l = -1 := by omega
      rw [e] at hs
      rw [if_pos hn, if_pos (by omega)]
      clear hok
      have o := o9_1110100; simp only [OE, opsR, cqR, subR, chi, Try.f9] at o
      rw [loopC_round]
      (try simp (maxSteps := 4000000) (disch := first | assumption | omega) only [go_sem, *, rN_len, hg, GNode.enc, hs, o, pairsOk, ↓bin_eql, ↓bin_neq, Nat.reduceAdd, Nat.reduceSub, Nat.reduceMul, Nat.reduceBEq, Nat.reduceLeDiff, Nat.reduceLT, Nat.reduceDiv, Nat.reduceMod, drwK_some, disj, ordered, ancs]); repeat' ((first | with_reducible first | refine caK (fun hb => ?_) fun hb => ?_ | refine caG (fun hb => ?_) fun hb => ?_ | refine caP (fun hb => ?_) fun hb => ?_ | refine caH (fun hb => ?_) fun hb => ?_ | refine caQ (fun hb => ?_) fun hb => ?_ | refine ite_cases (fun hb => ?_) fun hb => ?_) <;> try simp (maxSteps := 4000000) (disch := first | assumption | omega) only [go_sem, *, rN_len, hg, GNode.enc, hs, o, pairsOk, ↓bin_eql, ↓bin_neq, Nat.reduceAdd, Nat.reduceSub, Nat.reduceMul, Nat.reduceBEq, Nat.reduceLeDiff, Nat.reduceLT, Nat.reduceDiv, Nat.reduceMod, drwK_some, disj, ordered, ancs])
    · have ih := szNodeS_loop xs hx hok m (i + 1) (szN x l) (by omega) (by omega) (by omega)
      rw [if_neg hn]
      generalize szN x l = r at hs hn l1 l2 ih ⊢
      rw [← ih]
      clear ih hok
      have o := o9_1110100; simp only [OE, opsR, cqR, subR, chi, Try.f9] at o
      rw [loopC_round]
      (try simp (maxSteps := 4000000) (disch := first | assumption | omega) only [go_sem, *, rN_len, hg, GNode.enc, hs, o, pairsOk, ↓bin_eql, ↓bin_neq, Nat.reduceAdd, Nat.reduceSub, Nat.reduceMul, Nat.reduceBEq, Nat.reduceLeDiff, Nat.reduceLT, Nat.reduceDiv, Nat.reduceMod, drwK_some, disj, ordered, ancs]); repeat' ((first | with_reducible first | refine caK (fun hb => ?_) fun hb => ?_ | refine caG (fun hb => ?_) fun hb => ?_ | refine caP (fun hb => ?_) fun hb => ?_ | refine caH (fun hb => ?_) fun hb => ?_ | refine caQ (fun hb => ?_) fun hb => ?_ | refine ite_cases (fun hb => ?_) fun hb => ?_) <;> try simp (maxSteps := 4000000) (disch := first | assumption | omega) only [go_sem, *, rN_len, hg, GNode.enc, hs, o, pairsOk, ↓bin_eql, ↓bin_neq, Nat.reduceAdd, Nat.reduceSub, Nat.reduceMul, Nat.reduceBEq, Nat.reduceLeDiff, Nat.reduceLT, Nat.reduceDiv, Nat.reduceMod, drwK_some, disj, ordered, ancs])
theorem szNodeS_ok (xs : List GNode) (l : Int) (hl : 0 ≤ l ∧ l ≤ 1048576) (hx : xs.length ≤ maxLen) (hok : ∀ x ∈ xs, x.Text.length ≤ maxLen ∧ x.Kids.length ≤ maxLen) : fnL Try.prog T L0 9 [.c (.d (.sl 3 (rN xs))), .c (.d (.v (.int .i64 (l))))] [] = some (.one (.c (.d (.v (.int .i64 (if l - xs.length < 0 then -1 else szNs xs (l - xs.length)))))), []) := by
  have : maxLen = 9223372036854775807 := rfl
  by_cases h : l - (xs.length : Int) < 0
  · rw [if_pos h]
    clear hok
    refine fnL_run rfl N9 Try.func9 U9 ?_; have o := o9; simp only [OE, opsR, cqR, subR, chi, Try.f9] at o
    (try simp (maxSteps := 4000000) (disch := first | assumption | omega) only [go_sem, *, rN_len, o, pairsOk, ↓bin_eql, ↓bin_neq, Nat.reduceAdd, Nat.reduceSub, Nat.reduceMul, Nat.reduceBEq, Nat.reduceLeDiff, Nat.reduceLT, Nat.reduceDiv, Nat.reduceMod, drwK_some, disj, ordered, ancs]); repeat' ((first | with_reducible first | refine caK (fun hb => ?_) fun hb => ?_ | refine caG (fun hb => ?_) fun hb => ?_ | refine caP (fun hb => ?_) fun hb => ?_ | refine caH (fun hb => ?_) fun hb => ?_ | refine caQ (fun hb => ?_) fun hb => ?_ | refine ite_cases (fun hb => ?_) fun hb => ?_) <;> try simp (maxSteps := 4000000) (disch := first | assumption | omega) only [go_sem, *, rN_len, o, pairsOk, ↓bin_eql, ↓bin_neq, Nat.reduceAdd, Nat.reduceSub, Nat.reduceMul, Nat.reduceBEq, Nat.reduceLeDiff, Nat.reduceLT, Nat.reduceDiv, Nat.reduceMod, drwK_some, disj, ordered, ancs])
  · rw [if_neg h]
    have L := szNodeS_loop xs (by omega) hok xs.length 0 (l - xs.length) (by omega) (by omega) (by omega)
    obtain ⟨l1, l2⟩ := szNs_le xs (l - xs.length) (by omega)
    rw [Int.toNat_zero, List.drop_zero] at L
    clear hok
    generalize szNs xs (l - (xs.length : Int)) = r at L l1 l2 ⊢
    by_cases hr : r < 0
    · rw [if_pos hr] at L
      have e : r = -1 := by omega
      subst e
      refine fnL_run rfl N9 Try.func9 U9 ?_; have o := o9; simp only [OE, opsR, cqR, subR, chi, Try.f9] at o
      (try simp (maxSteps := 4000000) (disch := first | assumption | omega) only [go_sem, *, rN_len, L, o, pairsOk, ↓bin_eql, ↓bin_neq, Nat.reduceAdd, Nat.reduceSub, Nat.reduceMul, Nat.reduceBEq, Nat.reduceLeDiff, Nat.reduceLT, Nat.reduceDiv, Nat.reduceMod, drwK_some, disj, ordered, ancs]); repeat' ((first | with_reducible first | refine caK (fun hb => ?_) fun hb => ?_ | refine caG (fun hb => ?_) fun hb => ?_ | refine caP (fun hb => ?_) fun hb => ?_ | refine caH (fun hb => ?_) fun hb => ?_ | refine caQ (fun hb => ?_) fun hb => ?_ | refine ite_cases (fun hb => ?_) fun hb => ?_) <;> try simp (maxSteps := 4000000) (disch := first | assumption | omega) only [go_sem, *, rN_len, L, o, pairsOk, ↓bin_eql, ↓bin_neq, Nat.reduceAdd, Nat.reduceSub, Nat.reduceMul, Nat.reduceBEq, Nat.reduceLeDiff, Nat.reduceLT, Nat.reduceDiv, Nat.reduceMod, drwK_some, disj, ordered, ancs])
    · rw [if_neg hr] at L
      refine fnL_run rfl N9 Try.func9 U9 ?_; have o := o9; simp only [OE, opsR, cqR, subR, chi, Try.f9] at o
      (try simp (maxSteps := 4000000) (disch := first | assumption | omega) only [go_sem, *, rN_len, L, o, pairsOk, ↓bin_eql, ↓bin_neq, Nat.reduceAdd, Nat.reduceSub, Nat.reduceMul, Nat.reduceBEq, Nat.reduceLeDiff, Nat.reduceLT, Nat.reduceDiv, Nat.reduceMod, drwK_some, disj, ordered, ancs]); repeat' ((first | with_reducible first | refine caK (fun hb => ?_) fun hb => ?_ | refine caG (fun hb => ?_) fun hb => ?_ | refine caP (fun hb => ?_) fun hb => ?_ | refine caH (fun hb => ?_) fun hb => ?_ | refine caQ (fun hb => ?_) fun hb => ?_ | refine ite_cases (fun hb => ?_) fun hb => ?_) <;> try simp (maxSteps := 4000000) (disch := first | assumption | omega) only [go_sem, *, rN_len, L, o, pairsOk, ↓bin_eql, ↓bin_neq, Nat.reduceAdd, Nat.reduceSub, Nat.reduceMul, Nat.reduceBEq, Nat.reduceLeDiff, Nat.reduceLT, Nat.reduceDiv, Nat.reduceMod, drwK_some, disj, ordered, ancs])
theorem szRuleS_ok (xs : List GRule) (l : Int) (hl : 0 ≤ l ∧ l ≤ 1048576) (hx : xs.length ≤ maxLen) : fnL Try.prog T L0 10 [.c (.d (.sl 3 (rR xs))), .c (.d (.v (.int .i64 (l))))] [] = some (.one (.c (.d (.v (.int .i64 (if l - xs.length < 0 then -1 else l - xs.length))))), []) := by
  have : maxLen = 9223372036854775807 := rfl
  refine fnL_run rfl N10 Try.func10 U10 ?_; have o := o10; simp only [OE, opsR, cqR, subR, chi, Try.f10] at o
  (try simp (maxSteps := 4000000) (disch := first | assumption | omega) only [go_sem, *, rR_len, o, pairsOk, ↓bin_eql, ↓bin_neq, Nat.reduceAdd, Nat.reduceSub, Nat.reduceMul, Nat.reduceBEq, Nat.reduceLeDiff, Nat.reduceLT, Nat.reduceDiv, Nat.reduceMod, drwK_some, disj, ordered, ancs]); repeat' ((first | with_reducible first | refine caK (fun hb => ?_) fun hb => ?_ | refine caG (fun hb => ?_) fun hb => ?_ | refine caP (fun hb => ?_) fun hb => ?_ | refine caH (fun hb => ?_) fun hb => ?_ | refine caQ (fun hb => ?_) fun hb => ?_ | refine ite_cases (fun hb => ?_) fun hb => ?_) <;> try simp (maxSteps := 4000000) (disch := first | assumption | omega) only [go_sem, *, rR_len, o, pairsOk, ↓bin_eql, ↓bin_neq, Nat.reduceAdd, Nat.reduceSub, Nat.reduceMul, Nat.reduceBEq, Nat.reduceLeDiff, Nat.reduceLT, Nat.reduceDiv, Nat.reduceMod, drwK_some, disj, ordered, ancs])
def szP (p : GProgram) (l : Int) : Int :=
  if (if l - p.Nodes.length < 0 then -1 else szNs p.Nodes (l - p.Nodes.length)) < 0 then -1
  else if (if l - p.Nodes.length < 0 then -1 else szNs p.Nodes (l - p.Nodes.length)) - p.Rules.length < 0 then -1 else (if l - p.Nodes.length < 0 then -1 else szNs p.Nodes (l - p.Nodes.length)) - p.Rules.length
theorem szProgram_ok (p : GProgram) (l : Int) (hl : 0 ≤ l ∧ l ≤ 1048576) (hp : p.ok) : fnL Try.prog T L0 4 [.agg (p.enc.map .d), .c (.d (.v (.int .i64 (l))))] [] = some (.one (.c (.d (.v (.int .i64 (szP p l))))), []) := by
  have : maxLen = 9223372036854775807 := rfl
  obtain ⟨⟨h1, h2⟩, h3, h4⟩ := hp
  have hN := szNodeS_ok p.Nodes l hl h1 (fun x hx => ⟨(h2 x hx).2.1, (h2 x hx).2.2.1⟩)
  have hb : (if l - (p.Nodes.length : Int) < 0 then -1 else szNs p.Nodes (l - p.Nodes.length)) ≤ 1048576 ∧ -1 ≤ (if l - (p.Nodes.length : Int) < 0 then -1 else szNs p.Nodes (l - p.Nodes.length)) := by
    split
    · omega
    · have := szNs_le p.Nodes (l - p.Nodes.length) (by omega)
      omega
  unfold szP
  generalize (if l - (p.Nodes.length : Int) < 0 then -1 else szNs p.Nodes (l - p.Nodes.length)) = r at hN hb ⊢
  have hR := fun h => szRuleS_ok p.Rules r ⟨h, hb.1⟩ h3
  clear h2 h4
  by_cases hr : r < 0
  · clear hR
    rw [if_pos hr]
    refine fnL_run rfl N4 Try.func4 U4 ?_; have o := o4; simp only [OE, opsR, cqR, subR, chi, Try.f4] at o
    (try simp (maxSteps := 4000000) (disch := first | assumption | omega) only [go_sem, *, encP, hN, o, pairsOk, ↓bin_eql, ↓bin_neq, Nat.reduceAdd, Nat.reduceSub, Nat.reduceMul, Nat.reduceBEq, Nat.reduceLeDiff, Nat.reduceLT, Nat.reduceDiv, Nat.reduceMod, drwK_some, disj, ordered, ancs]); repeat' ((first | with_reducible first | refine caK (fun hb => ?_) fun hb => ?_ | refine caG (fun hb => ?_) fun hb => ?_ | refine caP (fun hb => ?_) fun hb => ?_ | refine caH (fun hb => ?_) fun hb => ?_ | refine caQ (fun hb => ?_) fun hb => ?_ | refine ite_cases (fun hb => ?_) fun hb => ?_) <;> try simp (maxSteps := 4000000) (disch := first | assumption | omega) only [go_sem, *, encP, hN, o, pairsOk, ↓bin_eql, ↓bin_neq, Nat.reduceAdd, Nat.reduceSub, Nat.reduceMul, Nat.reduceBEq, Nat.reduceLeDiff, Nat.reduceLT, Nat.reduceDiv, Nat.reduceMod, drwK_some, disj, ordered, ancs])
  · have hR := hR (by omega)
    rw [if_neg hr]
    generalize hq : (if r - (p.Rules.length : Int) < 0 then -1 else r - (p.Rules.length : Int)) = q at hR ⊢
    have hq2 : -1 ≤ q ∧ (q < 0 → q = -1) := by rw [← hq]; split <;> omega
    clear hq
    by_cases hq3 : q < 0
    · have e := hq2.2 hq3
      subst e
      refine fnL_run rfl N4 Try.func4 U4 ?_; have o := o4; simp only [OE, opsR, cqR, subR, chi, Try.f4] at o
      (try simp (maxSteps := 4000000) (disch := first | assumption | omega) only [go_sem, *, encP, hN, hR, o, pairsOk, ↓bin_eql, ↓bin_neq, Nat.reduceAdd, Nat.reduceSub, Nat.reduceMul, Nat.reduceBEq, Nat.reduceLeDiff, Nat.reduceLT, Nat.reduceDiv, Nat.reduceMod, drwK_some, disj, ordered, ancs]); repeat' ((first | with_reducible first | refine caK (fun hb => ?_) fun hb => ?_ | refine caG (fun hb => ?_) fun hb => ?_ | refine caP (fun hb => ?_) fun hb => ?_ | refine caH (fun hb => ?_) fun hb => ?_ | refine caQ (fun hb => ?_) fun hb => ?_ | refine ite_cases (fun hb => ?_) fun hb => ?_) <;> try simp (maxSteps := 4000000) (disch := first | assumption | omega) only [go_sem, *, encP, hN, hR, o, pairsOk, ↓bin_eql, ↓bin_neq, Nat.reduceAdd, Nat.reduceSub, Nat.reduceMul, Nat.reduceBEq, Nat.reduceLeDiff, Nat.reduceLT, Nat.reduceDiv, Nat.reduceMod, drwK_some, disj, ordered, ancs])
    · refine fnL_run rfl N4 Try.func4 U4 ?_; have o := o4; simp only [OE, opsR, cqR, subR, chi, Try.f4] at o
      (try simp (maxSteps := 4000000) (disch := first | assumption | omega) only [go_sem, *, encP, hN, hR, o, pairsOk, ↓bin_eql, ↓bin_neq, Nat.reduceAdd, Nat.reduceSub, Nat.reduceMul, Nat.reduceBEq, Nat.reduceLeDiff, Nat.reduceLT, Nat.reduceDiv, Nat.reduceMod, drwK_some, disj, ordered, ancs]); repeat' ((first | with_reducible first | refine caK (fun hb => ?_) fun hb => ?_ | refine caG (fun hb => ?_) fun hb => ?_ | refine caP (fun hb => ?_) fun hb => ?_ | refine caH (fun hb => ?_) fun hb => ?_ | refine caQ (fun hb => ?_) fun hb => ?_ | refine ite_cases (fun hb => ?_) fun hb => ?_) <;> try simp (maxSteps := 4000000) (disch := first | assumption | omega) only [go_sem, *, encP, hN, hR, o, pairsOk, ↓bin_eql, ↓bin_neq, Nat.reduceAdd, Nat.reduceSub, Nat.reduceMul, Nat.reduceBEq, Nat.reduceLeDiff, Nat.reduceLT, Nat.reduceDiv, Nat.reduceMod, drwK_some, disj, ordered, ancs])
def fil {α : Type} (rows : List α) (z : α) (i : Nat) : List α := rows.take i ++ List.replicate (rows.length - i) z
theorem fil_len {α : Type} (rows : List α) (z : α) (i : Nat) (h : i ≤ rows.length) : (fil rows z i).length = rows.length := by unfold fil; simp; omega
theorem fil_get {α : Type} (rows : List α) (z : α) (i : Nat) (h : i < rows.length) : (fil rows z i)[i]? = some z := fill_get rows z i h
theorem fil_set {α : Type} (rows : List α) (z r : α) (i : Nat) (h : rows[i]? = some r) : (fil rows z i).set i r = fil rows z (i + 1) := by
  have hi : i < rows.length := (List.getElem?_eq_some_iff.1 h).1
  have hr : rows[i] = r := (List.getElem?_eq_some_iff.1 h).2
  rw [← hr]
  exact fill_set rows z i hi
theorem fil_zero {α : Type} (rows : List α) (z : α) : fil rows z 0 = List.replicate rows.length z := by simp [fil]
theorem fil_end {α : Type} (rows : List α) (z : α) (i : Nat) (h : rows.length ≤ i) : fil rows z i = rows := by
  unfold fil
  rw [List.take_of_length_le h, show rows.length - i = 0 by omega]
  simp
abbrev zI : List D := [.v (.int .i64 (0))]
abbrev zN : List D := [.v (.int .i64 (0)), .v (.string (B ([]))), .v (.slice none 0 0)]
abbrev zR : List D := [.v (.int .i64 (0)), .v (.int .i64 (0)), .v (.int .i64 (0))]
theorem rI_len (xs : List Int) : (rI xs).length = xs.length := by simp [rI]
theorem rI_get (xs : List Int) (i : Nat) (h : i < xs.length) : (rI xs)[i]? = some [.v (.int .i64 (xs[i]))] := map_get xs _ i h
theorem toIntS_loop (xs : List Int) (hx : xs.length ≤ 1048576) : ∀ (m : Nat) (i : Int), 0 ≤ i → i + m = xs.length →
    loopC Try.prog T (fnL Try.prog T L0) 36 (cq g36 [0, 0, 1, 0, 1, 1]) ⟨[.one (.c (.d (.sl 1 (rI xs)))), J, J, .one (.c (.arr 0 0 xs.length)), .one (.c (.d (.v (.int .i64 (i))))), J, J, J, J, J, J, J, J, J, J, J, J, J, J, J, J, J], hpOf [some (.arr 1 (fil (rI xs) zI i.toNat))], 1, 0⟩ =
      some (.exit 0, ⟨[J, J, J, .one (.c (.arr 0 0 xs.length)), J, J, J, J, J, J, J, J, J, J, J, J, J, J, J, J, J, J], hpOf [some (.arr 1 (rI xs))], 1, 0⟩)
  | 0, i, h0, hm => by
    rw [fil_end _ _ _ (by rw [rI_len]; omega)]
    have o := o36_110100; simp only [OE, opsR, cqR, subR, chi, Try.f36] at o
    rw [loopC_round]
    (try simp (maxSteps := 4000000) (disch := first | assumption | omega) only [go_sem, *, rI_len, o, pairsOk, ↓bin_eql, ↓bin_neq, Nat.reduceAdd, Nat.reduceSub, Nat.reduceMul, Nat.reduceBEq, Nat.reduceLeDiff, Nat.reduceLT, Nat.reduceDiv, Nat.reduceMod, drwK_some, disj, ordered, ancs]); repeat' ((first | with_reducible first | refine caK (fun hb => ?_) fun hb => ?_ | refine caG (fun hb => ?_) fun hb => ?_ | refine caP (fun hb => ?_) fun hb => ?_ | refine caH (fun hb => ?_) fun hb => ?_ | refine caQ (fun hb => ?_) fun hb => ?_ | refine ite_cases (fun hb => ?_) fun hb => ?_) <;> try simp (maxSteps := 4000000) (disch := first | assumption | omega) only [go_sem, *, rI_len, o, pairsOk, ↓bin_eql, ↓bin_neq, Nat.reduceAdd, Nat.reduceSub, Nat.reduceMul, Nat.reduceBEq, Nat.reduceLeDiff, Nat.reduceLT, Nat.reduceDiv, Nat.reduceMod, drwK_some, disj, ordered, ancs])
  | m + 1, i, h0, hm => by
    have hil : i.toNat < xs.length := by omega
    have ih := toIntS_loop xs hx m (i + 1) (by omega) (by omega)
    have hg := rI_get xs i.toNat hil
    have h1 := fil_get (rI xs) zI i.toNat (by rw [rI_len]; exact hil)
    have h2 := fil_set (rI xs) zI _ i.toNat hg
    rw [show (i + 1).toNat = i.toNat + 1 by omega] at ih
    simp only [zI] at ih h1 h2 ⊢
    generalize xs[i.toNat] = x at hg h2
    have o := o36_110100; simp only [OE, opsR, cqR, subR, chi, Try.f36] at o
    rw [loopC_round]
    (try simp (maxSteps := 4000000) (disch := first | assumption | omega) only [go_sem, *, rI_len, hg, h1, h2, o, pairsOk, ↓bin_eql, ↓bin_neq, Nat.reduceAdd, Nat.reduceSub, Nat.reduceMul, Nat.reduceBEq, Nat.reduceLeDiff, Nat.reduceLT, Nat.reduceDiv, Nat.reduceMod, drwK_some, disj, ordered, ancs]); repeat' ((first | with_reducible first | refine caK (fun hb => ?_) fun hb => ?_ | refine caG (fun hb => ?_) fun hb => ?_ | refine caP (fun hb => ?_) fun hb => ?_ | refine caH (fun hb => ?_) fun hb => ?_ | refine caQ (fun hb => ?_) fun hb => ?_ | refine ite_cases (fun hb => ?_) fun hb => ?_) <;> try simp (maxSteps := 4000000) (disch := first | assumption | omega) only [go_sem, *, rI_len, hg, h1, h2, o, pairsOk, ↓bin_eql, ↓bin_neq, Nat.reduceAdd, Nat.reduceSub, Nat.reduceMul, Nat.reduceBEq, Nat.reduceLeDiff, Nat.reduceLT, Nat.reduceDiv, Nat.reduceMod, drwK_some, disj, ordered, ancs])
theorem toIntS_ok (xs : List Int) (hx : xs.length ≤ 1048576) : fnL Try.prog T L0 36 [.c (.d (.sl 1 (rI xs)))] [] = some (.one (.c (.d (.sl 1 (rI xs)))), []) := by
  have L := toIntS_loop xs hx xs.length 0 (by omega) (by omega)
  rw [Int.toNat_zero, fil_zero, rI_len] at L
  have hroom : room = 70368744177664 := rfl
  have hcast : ((xs.length : Int)).toNat = xs.length := by omega
  have ht : (rI xs).take xs.length = rI xs := List.take_of_length_le (by rw [rI_len]; omega)
  simp only [zI] at L
  refine fnL_run rfl N36 Try.func36 U36 ?_; have o := o36; simp only [OE, opsR, cqR, subR, chi, Try.f36] at o
  (try simp (maxSteps := 4000000) (disch := first | assumption | omega) only [go_sem, *, rI_len, L, ht, o, pairsOk, ↓bin_eql, ↓bin_neq, Nat.reduceAdd, Nat.reduceSub, Nat.reduceMul, Nat.reduceBEq, Nat.reduceLeDiff, Nat.reduceLT, Nat.reduceDiv, Nat.reduceMod, drwK_some, disj, ordered, ancs]); repeat' ((first | with_reducible first | refine caK (fun hb => ?_) fun hb => ?_ | refine caG (fun hb => ?_) fun hb => ?_ | refine caP (fun hb => ?_) fun hb => ?_ | refine caH (fun hb => ?_) fun hb => ?_ | refine caQ (fun hb => ?_) fun hb => ?_ | refine ite_cases (fun hb => ?_) fun hb => ?_) <;> try simp (maxSteps := 4000000) (disch := first | assumption | omega) only [go_sem, *, rI_len, L, ht, o, pairsOk, ↓bin_eql, ↓bin_neq, Nat.reduceAdd, Nat.reduceSub, Nat.reduceMul, Nat.reduceBEq, Nat.reduceLeDiff, Nat.reduceLT, Nat.reduceDiv, Nat.reduceMod, drwK_some, disj, ordered, ancs])
theorem toNode_ok (x : GNode) (hx : x.Kids.length ≤ 1048576) : fnL Try.prog T L0 24 [.agg (x.enc.map .d)] [] = some (.one (.agg (x.enc.map .d)), []) := by
  have h := toIntS_ok x.Kids hx
  simp only [rI] at h
  refine fnL_run rfl N24 Try.func24 U24 ?_; have o := o24; simp only [OE, opsR, cqR, subR, chi, Try.f24] at o
  (try simp (maxSteps := 4000000) (disch := first | assumption | omega) only [go_sem, *, GNode.enc, h, o, pairsOk, ↓bin_eql, ↓bin_neq, Nat.reduceAdd, Nat.reduceSub, Nat.reduceMul, Nat.reduceBEq, Nat.reduceLeDiff, Nat.reduceLT, Nat.reduceDiv, Nat.reduceMod, drwK_some, disj, ordered, ancs]); repeat' ((first | with_reducible first | refine caK (fun hb => ?_) fun hb => ?_ | refine caG (fun hb => ?_) fun hb => ?_ | refine caP (fun hb => ?_) fun hb => ?_ | refine caH (fun hb => ?_) fun hb => ?_ | refine caQ (fun hb => ?_) fun hb => ?_ | refine ite_cases (fun hb => ?_) fun hb => ?_) <;> try simp (maxSteps := 4000000) (disch := first | assumption | omega) only [go_sem, *, GNode.enc, h, o, pairsOk, ↓bin_eql, ↓bin_neq, Nat.reduceAdd, Nat.reduceSub, Nat.reduceMul, Nat.reduceBEq, Nat.reduceLeDiff, Nat.reduceLT, Nat.reduceDiv, Nat.reduceMod, drwK_some, disj, ordered, ancs])
theorem toRule_ok (x : GRule) : fnL Try.prog T L0 25 [.agg (x.enc.map .d)] [] = some (.one (.agg (x.enc.map .d)), []) := by
  refine fnL_run rfl N25 Try.func25 U25 ?_; have o := o25; simp only [OE, opsR, cqR, subR, chi, Try.f25] at o
  (try simp (maxSteps := 4000000) (disch := first | assumption | omega) only [go_sem, *, GRule.enc, o, pairsOk, ↓bin_eql, ↓bin_neq, Nat.reduceAdd, Nat.reduceSub, Nat.reduceMul, Nat.reduceBEq, Nat.reduceLeDiff, Nat.reduceLT, Nat.reduceDiv, Nat.reduceMod, drwK_some, disj, ordered, ancs]); repeat' ((first | with_reducible first | refine caK (fun hb => ?_) fun hb => ?_ | refine caG (fun hb => ?_) fun hb => ?_ | refine caP (fun hb => ?_) fun hb => ?_ | refine caH (fun hb => ?_) fun hb => ?_ | refine caQ (fun hb => ?_) fun hb => ?_ | refine ite_cases (fun hb => ?_) fun hb => ?_) <;> try simp (maxSteps := 4000000) (disch := first | assumption | omega) only [go_sem, *, GRule.enc, o, pairsOk, ↓bin_eql, ↓bin_neq, Nat.reduceAdd, Nat.reduceSub, Nat.reduceMul, Nat.reduceBEq, Nat.reduceLeDiff, Nat.reduceLT, Nat.reduceDiv, Nat.reduceMod, drwK_some, disj, ordered, ancs])
theorem toNodeS_loop (xs : List GNode) (hx : xs.length ≤ 1048576) (hk : ∀ x ∈ xs, x.Kids.length ≤ 1048576) : ∀ (m : Nat) (i : Int), 0 ≤ i → i + m = xs.length →
    loopC Try.prog T (fnL Try.prog T L0) 13 (cq g13 [0, 0, 1, 0, 1, 1]) ⟨[.one (.c (.d (.sl 3 (rN xs)))), J, J, .one (.c (.arr 0 0 xs.length)), .one (.c (.d (.v (.int .i64 (i))))), J, J, J, J, J, J, J, J, J, J, J, J, J, J, J, J, J, J], hpOf [some (.arr 3 (fil (rN xs) zN i.toNat))], 1, 0⟩ =
      some (.exit 0, ⟨[J, J, J, .one (.c (.arr 0 0 xs.length)), J, J, J, J, J, J, J, J, J, J, J, J, J, J, J, J, J, J, J], hpOf [some (.arr 3 (rN xs))], 1, 0⟩)
  | 0, i, h0, hm => by
    rw [fil_end _ _ _ (by rw [rN_len]; omega)]
    clear hk
    have o := o13_110100; simp only [OE, opsR, cqR, subR, chi, Try.f13] at o
    rw [loopC_round]
    (try simp (maxSteps := 4000000) (disch := first | assumption | omega) only [go_sem, *, rN_len, o, pairsOk, ↓bin_eql, ↓bin_neq, Nat.reduceAdd, Nat.reduceSub, Nat.reduceMul, Nat.reduceBEq, Nat.reduceLeDiff, Nat.reduceLT, Nat.reduceDiv, Nat.reduceMod, drwK_some, disj, ordered, ancs]); repeat' ((first | with_reducible first | refine caK (fun hb => ?_) fun hb => ?_ | refine caG (fun hb => ?_) fun hb => ?_ | refine caP (fun hb => ?_) fun hb => ?_ | refine caH (fun hb => ?_) fun hb => ?_ | refine caQ (fun hb => ?_) fun hb => ?_ | refine ite_cases (fun hb => ?_) fun hb => ?_) <;> try simp (maxSteps := 4000000) (disch := first | assumption | omega) only [go_sem, *, rN_len, o, pairsOk, ↓bin_eql, ↓bin_neq, Nat.reduceAdd, Nat.reduceSub, Nat.reduceMul, Nat.reduceBEq, Nat.reduceLeDiff, Nat.reduceLT, Nat.reduceDiv, Nat.reduceMod, drwK_some, disj, ordered, ancs])
  | m + 1, i, h0, hm => by
    have hil : i.toNat < xs.length := by omega
    have ih := toNodeS_loop xs hx hk m (i + 1) (by omega) (by omega)
    have hg := rN_get xs i.toNat hil
    have h1 := fil_get (rN xs) zN i.toNat (by rw [rN_len]; exact hil)
    have h2 := fil_set (rN xs) zN _ i.toNat hg
    have h3 := toNode_ok xs[i.toNat] (hk _ (List.getElem_mem _))
    rw [show (i + 1).toNat = i.toNat + 1 by omega] at ih
    generalize xs[i.toNat] = x at hg h2 h3
    simp only [zN, GNode.enc, List.map_cons, List.map_nil] at ih h1 h2 h3 hg ⊢
    clear hk
    have o := o13_110100; simp only [OE, opsR, cqR, subR, chi, Try.f13] at o
    rw [loopC_round]
    (try simp (maxSteps := 4000000) (disch := first | assumption | omega) only [go_sem, *, rN_len, hg, h1, h2, h3, o, pairsOk, ↓bin_eql, ↓bin_neq, Nat.reduceAdd, Nat.reduceSub, Nat.reduceMul, Nat.reduceBEq, Nat.reduceLeDiff, Nat.reduceLT, Nat.reduceDiv, Nat.reduceMod, drwK_some, disj, ordered, ancs]); repeat' ((first | with_reducible first | refine caK (fun hb => ?_) fun hb => ?_ | refine caG (fun hb => ?_) fun hb => ?_ | refine caP (fun hb => ?_) fun hb => ?_ | refine caH (fun hb => ?_) fun hb => ?_ | refine caQ (fun hb => ?_) fun hb => ?_ | refine ite_cases (fun hb => ?_) fun hb => ?_) <;> try simp (maxSteps := 4000000) (disch := first | assumption | omega) only [go_sem, *, rN_len, hg, h1, h2, h3, o, pairsOk, ↓bin_eql, ↓bin_neq, Nat.reduceAdd, Nat.reduceSub, Nat.reduceMul, Nat.reduceBEq, Nat.reduceLeDiff, Nat.reduceLT, Nat.reduceDiv, Nat.reduceMod, drwK_some, disj, ordered, ancs])
theorem toNodeS_ok (xs : List GNode) (hx : xs.length ≤ 1048576) (hk : ∀ x ∈ xs, x.Kids.length ≤ 1048576) : fnL Try.prog T L0 13 [.c (.d (.sl 3 (rN xs)))] [] = some (.one (.c (.d (.sl 3 (rN xs)))), []) := by
  have L := toNodeS_loop xs hx hk xs.length 0 (by omega) (by omega)
  rw [Int.toNat_zero, fil_zero, rN_len] at L
  have hroom : room = 70368744177664 := rfl
  have hcast : ((xs.length : Int)).toNat = xs.length := by omega
  have ht : (rN xs).take xs.length = rN xs := List.take_of_length_le (by rw [rN_len]; omega)
  simp only [zN] at L
  clear hk
  refine fnL_run rfl N13 Try.func13 U13 ?_; have o := o13; simp only [OE, opsR, cqR, subR, chi, Try.f13] at o
  (try simp (maxSteps := 4000000) (disch := first | assumption | omega) only [go_sem, *, rN_len, L, ht, o, pairsOk, ↓bin_eql, ↓bin_neq, Nat.reduceAdd, Nat.reduceSub, Nat.reduceMul, Nat.reduceBEq, Nat.reduceLeDiff, Nat.reduceLT, Nat.reduceDiv, Nat.reduceMod, drwK_some, disj, ordered, ancs]); repeat' ((first | with_reducible first | refine caK (fun hb => ?_) fun hb => ?_ | refine caG (fun hb => ?_) fun hb => ?_ | refine caP (fun hb => ?_) fun hb => ?_ | refine caH (fun hb => ?_) fun hb => ?_ | refine caQ (fun hb => ?_) fun hb => ?_ | refine ite_cases (fun hb => ?_) fun hb => ?_) <;> try simp (maxSteps := 4000000) (disch := first | assumption | omega) only [go_sem, *, rN_len, L, ht, o, pairsOk, ↓bin_eql, ↓bin_neq, Nat.reduceAdd, Nat.reduceSub, Nat.reduceMul, Nat.reduceBEq, Nat.reduceLeDiff, Nat.reduceLT, Nat.reduceDiv, Nat.reduceMod, drwK_some, disj, ordered, ancs])
theorem toRuleS_loop (xs : List GRule) (hx : xs.length ≤ 1048576) : ∀ (m : Nat) (i : Int), 0 ≤ i → i + m = xs.length →
    loopC Try.prog T (fnL Try.prog T L0) 14 (cq g14 [0, 0, 1, 0, 1, 1]) ⟨[.one (.c (.d (.sl 3 (rR xs)))), J, J, .one (.c (.arr 0 0 xs.length)), .one (.c (.d (.v (.int .i64 (i))))), J, J, J, J, J, J, J, J, J, J, J, J, J, J, J, J, J, J], hpOf [some (.arr 3 (fil (rR xs) zR i.toNat))], 1, 0⟩ =
      some (.exit 0, ⟨[J, J, J, .one (.c (.arr 0 0 xs.length)), J, J, J, J, J, J, J, J, J, J, J, J, J, J, J, J, J, J, J], hpOf [some (.arr 3 (rR xs))], 1, 0⟩)
  | 0, i, h0, hm => by
    rw [fil_end _ _ _ (by rw [rR_len]; omega)]
    have o := o14_110100; simp only [OE, opsR, cqR, subR, chi, Try.f14] at o
    rw [loopC_round]
    (try simp (maxSteps := 4000000) (disch := first | assumption | omega) only [go_sem, *, rR_len, o, pairsOk, ↓bin_eql, ↓bin_neq, Nat.reduceAdd, Nat.reduceSub, Nat.reduceMul, Nat.reduceBEq, Nat.reduceLeDiff, Nat.reduceLT, Nat.reduceDiv, Nat.reduceMod, drwK_some, disj, ordered, ancs]); repeat' ((first | with_reducible first | refine caK (fun hb => ?_) fun hb => ?_ | refine caG (fun hb => ?_) fun hb => ?_ | refine caP (fun hb => ?_) fun hb => ?_ | refine caH (fun hb => ?_) fun hb => ?_ | refine caQ (fun hb => ?_) fun hb => ?_ | refine ite_cases (fun hb => ?_) fun hb => ?_) <;> try simp (maxSteps := 4000000) (disch := first | assumption | omega) only [go_sem, *, rR_len, o, pairsOk, ↓bin_eql, ↓bin_neq, Nat.reduceAdd, Nat.reduceSub, Nat.reduceMul, Nat.reduceBEq, Nat.reduceLeDiff, Nat.reduceLT, Nat.reduceDiv, Nat.reduceMod, drwK_some, disj, ordered, ancs])
  | m + 1, i, h0, hm => by
    have hil : i.toNat < xs.length := by omega
    have ih := toRuleS_loop xs hx m (i + 1) (by omega) (by omega)
    have hg := rR_get xs i.toNat hil
    have h1 := fil_get (rR xs) zR i.toNat (by rw [rR_len]; exact hil)
    have h2 := fil_set (rR xs) zR _ i.toNat hg
    have h3 := toRule_ok xs[i.toNat]
    rw [show (i + 1).toNat = i.toNat + 1 by omega] at ih
    generalize xs[i.toNat] = x at hg h2 h3
    simp only [zR, GRule.enc, List.map_cons, List.map_nil] at ih h1 h2 h3 hg ⊢
    have o := o14_110100; simp only [OE, opsR, cqR, subR, chi, Try.f14] at o
    rw [loopC_round]
    (try simp (maxSteps := 4000000) (disch := first | assumption | omega) only [go_sem, *, rR_len, hg, h1, h2, h3, o, pairsOk, ↓bin_eql, ↓bin_neq, Nat.reduceAdd, Nat.reduceSub, Nat.reduceMul, Nat.reduceBEq, Nat.reduceLeDiff, Nat.reduceLT, Nat.reduceDiv, Nat.reduceMod, drwK_some, disj, ordered, ancs]); repeat' ((first | with_reducible first | refine caK (fun hb => ?_) fun hb => ?_ | refine caG (fun hb => ?_) fun hb => ?_ | refine caP (fun hb => ?_) fun hb => ?_ | refine caH (fun hb => ?_) fun hb => ?_ | refine caQ (fun hb => ?_) fun hb => ?_ | refine ite_cases (fun hb => ?_) fun hb => ?_) <;> try simp (maxSteps := 4000000) (disch := first | assumption | omega) only [go_sem, *, rR_len, hg, h1, h2, h3, o, pairsOk, ↓bin_eql, ↓bin_neq, Nat.reduceAdd, Nat.reduceSub, Nat.reduceMul, Nat.reduceBEq, Nat.reduceLeDiff, Nat.reduceLT, Nat.reduceDiv, Nat.reduceMod, drwK_some, disj, ordered, ancs])
theorem toRuleS_ok (xs : List GRule) (hx : xs.length ≤ 1048576) : fnL Try.prog T L0 14 [.c (.d (.sl 3 (rR xs)))] [] = some (.one (.c (.d (.sl 3 (rR xs)))), []) := by
  have L := toRuleS_loop xs hx xs.length 0 (by omega) (by omega)
  rw [Int.toNat_zero, fil_zero, rR_len] at L
  have hroom : room = 70368744177664 := rfl
  have hcast : ((xs.length : Int)).toNat = xs.length := by omega
  have ht : (rR xs).take xs.length = rR xs := List.take_of_length_le (by rw [rR_len]; omega)
  simp only [zR] at L
  refine fnL_run rfl N14 Try.func14 U14 ?_; have o := o14; simp only [OE, opsR, cqR, subR, chi, Try.f14] at o
  (try simp (maxSteps := 4000000) (disch := first | assumption | omega) only [go_sem, *, rR_len, L, ht, o, pairsOk, ↓bin_eql, ↓bin_neq, Nat.reduceAdd, Nat.reduceSub, Nat.reduceMul, Nat.reduceBEq, Nat.reduceLeDiff, Nat.reduceLT, Nat.reduceDiv, Nat.reduceMod, drwK_some, disj, ordered, ancs]); repeat' ((first | with_reducible first | refine caK (fun hb => ?_) fun hb => ?_ | refine caG (fun hb => ?_) fun hb => ?_ | refine caP (fun hb => ?_) fun hb => ?_ | refine caH (fun hb => ?_) fun hb => ?_ | refine caQ (fun hb => ?_) fun hb => ?_ | refine ite_cases (fun hb => ?_) fun hb => ?_) <;> try simp (maxSteps := 4000000) (disch := first | assumption | omega) only [go_sem, *, rR_len, L, ht, o, pairsOk, ↓bin_eql, ↓bin_neq, Nat.reduceAdd, Nat.reduceSub, Nat.reduceMul, Nat.reduceBEq, Nat.reduceLeDiff, Nat.reduceLT, Nat.reduceDiv, Nat.reduceMod, drwK_some, disj, ordered, ancs])
theorem toProgram_ok (p : GProgram) (h1 : p.Nodes.length ≤ 1048576) (h2 : p.Rules.length ≤ 1048576) (hk : ∀ x ∈ p.Nodes, x.Kids.length ≤ 1048576) : fnL Try.prog T L0 6 [.agg (p.enc.map .d)] [] = some (.one (.agg (p.enc.map .d)), []) := by
  have hN := toNodeS_ok p.Nodes h1 hk
  have hR := toRuleS_ok p.Rules h2
  clear hk
  refine fnL_run rfl N6 Try.func6 U6 ?_; have o := o6; simp only [OE, opsR, cqR, subR, chi, Try.f6] at o
  (try simp (maxSteps := 4000000) (disch := first | assumption | omega) only [go_sem, *, encP, hN, hR, o, pairsOk, ↓bin_eql, ↓bin_neq, Nat.reduceAdd, Nat.reduceSub, Nat.reduceMul, Nat.reduceBEq, Nat.reduceLeDiff, Nat.reduceLT, Nat.reduceDiv, Nat.reduceMod, drwK_some, disj, ordered, ancs]); repeat' ((first | with_reducible first | refine caK (fun hb => ?_) fun hb => ?_ | refine caG (fun hb => ?_) fun hb => ?_ | refine caP (fun hb => ?_) fun hb => ?_ | refine caH (fun hb => ?_) fun hb => ?_ | refine caQ (fun hb => ?_) fun hb => ?_ | refine ite_cases (fun hb => ?_) fun hb => ?_) <;> try simp (maxSteps := 4000000) (disch := first | assumption | omega) only [go_sem, *, encP, hN, hR, o, pairsOk, ↓bin_eql, ↓bin_neq, Nat.reduceAdd, Nat.reduceSub, Nat.reduceMul, Nat.reduceBEq, Nat.reduceLeDiff, Nat.reduceLT, Nat.reduceDiv, Nat.reduceMod, drwK_some, disj, ordered, ancs])
theorem eqIntS_loop (xs : List Int) (hx : xs.length ≤ maxLen) : ∀ (m : Nat) (i : Int), 0 ≤ i → i + m = xs.length →
    loopC Try.prog T (fnL Try.prog T L0) 44 (cq g44 [0, 0, 1, 0, 1, 1]) ⟨[.one (.c (.d (.sl 1 (rI xs)))), .one (.c (.d (.sl 1 (rI xs)))), J, J, J, .one (.c (.d (.v (.int .i64 (i))))), J, J, J, J, J, J, J, J, J, J, J, J, J, J, J, J, J, J, J, J], hpOf [], 0, 0⟩ = some (.exit 0, ⟨[J, J, J, J, J, J, J, J, J, J, J, J, J, J, J, J, J, J, J, J, J, J, J, J, J, J], hpOf [], 0, 0⟩)
  | 0, i, h0, hm => by
    have o := o44_110100; simp only [OE, opsR, cqR, subR, chi, Try.f44] at o
    rw [loopC_round]
    (try simp (maxSteps := 4000000) (disch := first | assumption | omega) only [go_sem, *, rI_len, o, pairsOk, ↓bin_eql, ↓bin_neq, Nat.reduceAdd, Nat.reduceSub, Nat.reduceMul, Nat.reduceBEq, Nat.reduceLeDiff, Nat.reduceLT, Nat.reduceDiv, Nat.reduceMod, drwK_some, disj, ordered, ancs]); repeat' ((first | with_reducible first | refine caK (fun hb => ?_) fun hb => ?_ | refine caG (fun hb => ?_) fun hb => ?_ | refine caP (fun hb => ?_) fun hb => ?_ | refine caH (fun hb => ?_) fun hb => ?_ | refine caQ (fun hb => ?_) fun hb => ?_ | refine ite_cases (fun hb => ?_) fun hb => ?_) <;> try simp (maxSteps := 4000000) (disch := first | assumption | omega) only [go_sem, *, rI_len, o, pairsOk, ↓bin_eql, ↓bin_neq, Nat.reduceAdd, Nat.reduceSub, Nat.reduceMul, Nat.reduceBEq, Nat.reduceLeDiff, Nat.reduceLT, Nat.reduceDiv, Nat.reduceMod, drwK_some, disj, ordered, ancs])
  | m + 1, i, h0, hm => by
    have : maxLen = 9223372036854775807 := rfl
    have ih := eqIntS_loop xs hx m (i + 1) (by omega) (by omega)
    have hg := rI_get xs i.toNat (by omega)
    generalize xs[i.toNat] = x at hg
    have o := o44_110100; simp only [OE, opsR, cqR, subR, chi, Try.f44] at o
    rw [loopC_round]
    (try simp (maxSteps := 4000000) (disch := first | assumption | omega) only [go_sem, *, rI_len, hg, decTrue, o, pairsOk, ↓bin_eql, ↓bin_neq, Nat.reduceAdd, Nat.reduceSub, Nat.reduceMul, Nat.reduceBEq, Nat.reduceLeDiff, Nat.reduceLT, Nat.reduceDiv, Nat.reduceMod, drwK_some, disj, ordered, ancs]); repeat' ((first | with_reducible first | refine caK (fun hb => ?_) fun hb => ?_ | refine caG (fun hb => ?_) fun hb => ?_ | refine caP (fun hb => ?_) fun hb => ?_ | refine caH (fun hb => ?_) fun hb => ?_ | refine caQ (fun hb => ?_) fun hb => ?_ | refine ite_cases (fun hb => ?_) fun hb => ?_) <;> try simp (maxSteps := 4000000) (disch := first | assumption | omega) only [go_sem, *, rI_len, hg, decTrue, o, pairsOk, ↓bin_eql, ↓bin_neq, Nat.reduceAdd, Nat.reduceSub, Nat.reduceMul, Nat.reduceBEq, Nat.reduceLeDiff, Nat.reduceLT, Nat.reduceDiv, Nat.reduceMod, drwK_some, disj, ordered, ancs])
theorem eqIntS_ok (xs : List Int) (hx : xs.length ≤ maxLen) : fnL Try.prog T L0 44 [.c (.d (.sl 1 (rI xs))), .c (.d (.sl 1 (rI xs)))] [] = some (.one (.c (.d (.v (.bool (true))))), []) := by
  have L := eqIntS_loop xs hx xs.length 0 (by omega) (by omega)
  refine fnL_run rfl N44 Try.func44 U44 ?_; have o := o44; simp only [OE, opsR, cqR, subR, chi, Try.f44] at o
  (try simp (maxSteps := 4000000) (disch := first | assumption | omega) only [go_sem, *, rI_len, L, o, pairsOk, ↓bin_eql, ↓bin_neq, Nat.reduceAdd, Nat.reduceSub, Nat.reduceMul, Nat.reduceBEq, Nat.reduceLeDiff, Nat.reduceLT, Nat.reduceDiv, Nat.reduceMod, drwK_some, disj, ordered, ancs]); repeat' ((first | with_reducible first | refine caK (fun hb => ?_) fun hb => ?_ | refine caG (fun hb => ?_) fun hb => ?_ | refine caP (fun hb => ?_) fun hb => ?_ | refine caH (fun hb => ?_) fun hb => ?_ | refine caQ (fun hb => ?_) fun hb => ?_ | refine ite_cases (fun hb => ?_) fun hb => ?_) <;> try simp (maxSteps := 4000000) (disch := first | assumption | omega) only [go_sem, *, rI_len, L, o, pairsOk, ↓bin_eql, ↓bin_neq, Nat.reduceAdd, Nat.reduceSub, Nat.reduceMul, Nat.reduceBEq, Nat.reduceLeDiff, Nat.reduceLT, Nat.reduceDiv, Nat.reduceMod, drwK_some, disj, ordered, ancs])
theorem eqNode_ok (x : GNode) (hk : x.Kids.length ≤ maxLen) : fnL Try.prog T L0 31 [.agg (x.enc.map .d), .agg (x.enc.map .d)] [] = some (.one (.c (.d (.v (.bool (true))))), []) := by
  have h := eqIntS_ok x.Kids hk
  simp only [rI] at h
  refine fnL_run rfl N31 Try.func31 U31 ?_; have o := o31; simp only [OE, opsR, cqR, subR, chi, Try.f31] at o
  (try simp (maxSteps := 4000000) (disch := first | assumption | omega) only [go_sem, *, GNode.enc, h, o, pairsOk, ↓bin_eql, ↓bin_neq, Nat.reduceAdd, Nat.reduceSub, Nat.reduceMul, Nat.reduceBEq, Nat.reduceLeDiff, Nat.reduceLT, Nat.reduceDiv, Nat.reduceMod, drwK_some, disj, ordered, ancs]); repeat' ((first | with_reducible first | refine caK (fun hb => ?_) fun hb => ?_ | refine caG (fun hb => ?_) fun hb => ?_ | refine caP (fun hb => ?_) fun hb => ?_ | refine caH (fun hb => ?_) fun hb => ?_ | refine caQ (fun hb => ?_) fun hb => ?_ | refine ite_cases (fun hb => ?_) fun hb => ?_) <;> try simp (maxSteps := 4000000) (disch := first | assumption | omega) only [go_sem, *, GNode.enc, h, o, pairsOk, ↓bin_eql, ↓bin_neq, Nat.reduceAdd, Nat.reduceSub, Nat.reduceMul, Nat.reduceBEq, Nat.reduceLeDiff, Nat.reduceLT, Nat.reduceDiv, Nat.reduceMod, drwK_some, disj, ordered, ancs])
theorem eqRule_ok (x : GRule) : fnL Try.prog T L0 32 [.agg (x.enc.map .d), .agg (x.enc.map .d)] [] = some (.one (.c (.d (.v (.bool (true))))), []) := by
  refine fnL_run rfl N32 Try.func32 U32 ?_; have o := o32; simp only [OE, opsR, cqR, subR, chi, Try.f32] at o
  (try simp (maxSteps := 4000000) (disch := first | assumption | omega) only [go_sem, *, GRule.enc, o, pairsOk, ↓bin_eql, ↓bin_neq, Nat.reduceAdd, Nat.reduceSub, Nat.reduceMul, Nat.reduceBEq, Nat.reduceLeDiff, Nat.reduceLT, Nat.reduceDiv, Nat.reduceMod, drwK_some, disj, ordered, ancs]); repeat' ((first | with_reducible first | refine caK (fun hb => ?_) fun hb => ?_ | refine caG (fun hb => ?_) fun hb => ?_ | refine caP (fun hb => ?_) fun hb => ?_ | refine caH (fun hb => ?_) fun hb => ?_ | refine caQ (fun hb => ?_) fun hb => ?_ | refine ite_cases (fun hb => ?_) fun hb => ?_) <;> try simp (maxSteps := 4000000) (disch := first | assumption | omega) only [go_sem, *, GRule.enc, o, pairsOk, ↓bin_eql, ↓bin_neq, Nat.reduceAdd, Nat.reduceSub, Nat.reduceMul, Nat.reduceBEq, Nat.reduceLeDiff, Nat.reduceLT, Nat.reduceDiv, Nat.reduceMod, drwK_some, disj, ordered, ancs])
theorem eqNodeS_loop (xs : List GNode) (hx : xs.length ≤ maxLen) (hk : ∀ x ∈ xs, x.Kids.length ≤ maxLen) : ∀ (m : Nat) (i : Int), 0 ≤ i → i + m = xs.length →
    loopC Try.prog T (fnL Try.prog T L0) 18 (cq g18 [0, 0, 1, 0, 1, 1]) ⟨[.one (.c (.d (.sl 3 (rN xs)))), .one (.c (.d (.sl 3 (rN xs)))), J, J, J, .one (.c (.d (.v (.int .i64 (i))))), J, J, J, J, J, J, J, J, J, J, J, J, J, J, J, J, J, J, J, J, J], hpOf [], 0, 0⟩ = some (.exit 0, ⟨[J, J, J, J, J, J, J, J, J, J, J, J, J, J, J, J, J, J, J, J, J, J, J, J, J, J, J], hpOf [], 0, 0⟩)
  | 0, i, h0, hm => by
    clear hk
    have o := o18_110100; simp only [OE, opsR, cqR, subR, chi, Try.f18] at o
    rw [loopC_round]
    (try simp (maxSteps := 4000000) (disch := first | assumption | omega) only [go_sem, *, rN_len, o, pairsOk, ↓bin_eql, ↓bin_neq, Nat.reduceAdd, Nat.reduceSub, Nat.reduceMul, Nat.reduceBEq, Nat.reduceLeDiff, Nat.reduceLT, Nat.reduceDiv, Nat.reduceMod, drwK_some, disj, ordered, ancs]); repeat' ((first | with_reducible first | refine caK (fun hb => ?_) fun hb => ?_ | refine caG (fun hb => ?_) fun hb => ?_ | refine caP (fun hb => ?_) fun hb => ?_ | refine caH (fun hb => ?_) fun hb => ?_ | refine caQ (fun hb => ?_) fun hb => ?_ | refine ite_cases (fun hb => ?_) fun hb => ?_) <;> try simp (maxSteps := 4000000) (disch := first | assumption | omega) only [go_sem, *, rN_len, o, pairsOk, ↓bin_eql, ↓bin_neq, Nat.reduceAdd, Nat.reduceSub, Nat.reduceMul, Nat.reduceBEq, Nat.reduceLeDiff, Nat.reduceLT, Nat.reduceDiv, Nat.reduceMod, drwK_some, disj, ordered, ancs])
  | m + 1, i, h0, hm => by
    have : maxLen = 9223372036854775807 := rfl
    have ih := eqNodeS_loop xs hx hk m (i + 1) (by omega) (by omega)
    have hil : i.toNat < xs.length := by omega
    have hg := rN_get xs i.toNat hil
    have h := eqNode_ok xs[i.toNat] (hk _ (List.getElem_mem _))
    clear hk
    generalize xs[i.toNat] = x at hg h
    simp only [GNode.enc, List.map_cons, List.map_nil] at hg h
    have o := o18_110100; simp only [OE, opsR, cqR, subR, chi, Try.f18] at o
    rw [loopC_round]
    (try simp (maxSteps := 4000000) (disch := first | assumption | omega) only [go_sem, *, rN_len, hg, h, o, pairsOk, ↓bin_eql, ↓bin_neq, Nat.reduceAdd, Nat.reduceSub, Nat.reduceMul, Nat.reduceBEq, Nat.reduceLeDiff, Nat.reduceLT, Nat.reduceDiv, Nat.reduceMod, drwK_some, disj, ordered, ancs]); repeat' ((first | with_reducible first | refine caK (fun hb => ?_) fun hb => ?_ | refine caG (fun hb => ?_) fun hb => ?_ | refine caP (fun hb => ?_) fun hb => ?_ | refine caH (fun hb => ?_) fun hb => ?_ | refine caQ (fun hb => ?_) fun hb => ?_ | refine ite_cases (fun hb => ?_) fun hb => ?_) <;> try simp (maxSteps := 4000000) (disch := first | assumption | omega) only [go_sem, *, rN_len, hg, h, o, pairsOk, ↓bin_eql, ↓bin_neq, Nat.reduceAdd, Nat.reduceSub, Nat.reduceMul, Nat.reduceBEq, Nat.reduceLeDiff, Nat.reduceLT, Nat.reduceDiv, Nat.reduceMod, drwK_some, disj, ordered, ancs])
theorem eqNodeS_ok (xs : List GNode) (hx : xs.length ≤ maxLen) (hk : ∀ x ∈ xs, x.Kids.length ≤ maxLen) : fnL Try.prog T L0 18 [.c (.d (.sl 3 (rN xs))), .c (.d (.sl 3 (rN xs)))] [] = some (.one (.c (.d (.v (.bool (true))))), []) := by
  have L := eqNodeS_loop xs hx hk xs.length 0 (by omega) (by omega)
  clear hk
  refine fnL_run rfl N18 Try.func18 U18 ?_; have o := o18; simp only [OE, opsR, cqR, subR, chi, Try.f18] at o
  (try simp (maxSteps := 4000000) (disch := first | assumption | omega) only [go_sem, *, rN_len, L, o, pairsOk, ↓bin_eql, ↓bin_neq, Nat.reduceAdd, Nat.reduceSub, Nat.reduceMul, Nat.reduceBEq, Nat.reduceLeDiff, Nat.reduceLT, Nat.reduceDiv, Nat.reduceMod, drwK_some, disj, ordered, ancs]); repeat' ((first | with_reducible first | refine caK (fun hb => ?_) fun hb => ?_ | refine caG (fun hb => ?_) fun hb => ?_ | refine caP (fun hb => ?_) fun hb => ?_ | refine caH (fun hb => ?_) fun hb => ?_ | refine caQ (fun hb => ?_) fun hb => ?_ | refine ite_cases (fun hb => ?_) fun hb => ?_) <;> try simp (maxSteps := 4000000) (disch := first | assumption | omega) only [go_sem, *, rN_len, L, o, pairsOk, ↓bin_eql, ↓bin_neq, Nat.reduceAdd, Nat.reduceSub, Nat.reduceMul, Nat.reduceBEq, Nat.reduceLeDiff, Nat.reduceLT, Nat.reduceDiv, Nat.reduceMod, drwK_some, disj, ordered, ancs])
theorem eqRuleS_loop (xs : List GRule) (hx : xs.length ≤ maxLen) : ∀ (m : Nat) (i : Int), 0 ≤ i → i + m = xs.length →
    loopC Try.prog T (fnL Try.prog T L0) 19 (cq g19 [0, 0, 1, 0, 1, 1]) ⟨[.one (.c (.d (.sl 3 (rR xs)))), .one (.c (.d (.sl 3 (rR xs)))), J, J, J, .one (.c (.d (.v (.int .i64 (i))))), J, J, J, J, J, J, J, J, J, J, J, J, J, J, J, J, J, J, J, J, J], hpOf [], 0, 0⟩ = some (.exit 0, ⟨[J, J, J, J, J, J, J, J, J, J, J, J, J, J, J, J, J, J, J, J, J, J, J, J, J, J, J], hpOf [], 0, 0⟩)
  | 0, i, h0, hm => by
    have o := o19_110100; simp only [OE, opsR, cqR, subR, chi, Try.f19] at o
    rw [loopC_round]
    (try simp (maxSteps := 4000000) (disch := first | assumption | omega) only [go_sem, *, rR_len, o, pairsOk, ↓bin_eql, ↓bin_neq, Nat.reduceAdd, Nat.reduceSub, Nat.reduceMul, Nat.reduceBEq, Nat.reduceLeDiff, Nat.reduceLT, Nat.reduceDiv, Nat.reduceMod, drwK_some, disj, ordered, ancs]); repeat' ((first | with_reducible first | refine caK (fun hb => ?_) fun hb => ?_ | refine caG (fun hb => ?_) fun hb => ?_ | refine caP (fun hb => ?_) fun hb => ?_ | refine caH (fun hb => ?_) fun hb => ?_ | refine caQ (fun hb => ?_) fun hb => ?_ | refine ite_cases (fun hb => ?_) fun hb => ?_) <;> try simp (maxSteps := 4000000) (disch := first | assumption | omega) only [go_sem, *, rR_len, o, pairsOk, ↓bin_eql, ↓bin_neq, Nat.reduceAdd, Nat.reduceSub, Nat.reduceMul, Nat.reduceBEq, Nat.reduceLeDiff, Nat.reduceLT, Nat.reduceDiv, Nat.reduceMod, drwK_some, disj, ordered, ancs])
  | m + 1, i, h0, hm => by
    have : maxLen = 9223372036854775807 := rfl
    have ih := eqRuleS_loop xs hx m (i + 1) (by omega) (by omega)
    have hil : i.toNat < xs.length := by omega
    have hg := rR_get xs i.toNat hil
    have h := eqRule_ok xs[i.toNat]
    generalize xs[i.toNat] = x at hg h
    simp only [GRule.enc, List.map_cons, List.map_nil] at hg h
    have o := o19_110100; simp only [OE, opsR, cqR, subR, chi, Try.f19] at o
    rw [loopC_round]
    (try simp (maxSteps := 4000000) (disch := first | assumption | omega) only [go_sem, *, rR_len, hg, h, o, pairsOk, ↓bin_eql, ↓bin_neq, Nat.reduceAdd, Nat.reduceSub, Nat.reduceMul, Nat.reduceBEq, Nat.reduceLeDiff, Nat.reduceLT, Nat.reduceDiv, Nat.reduceMod, drwK_some, disj, ordered, ancs]); repeat' ((first | with_reducible first | refine caK (fun hb => ?_) fun hb => ?_ | refine caG (fun hb => ?_) fun hb => ?_ | refine caP (fun hb => ?_) fun hb => ?_ | refine caH (fun hb => ?_) fun hb => ?_ | refine caQ (fun hb => ?_) fun hb => ?_ | refine ite_cases (fun hb => ?_) fun hb => ?_) <;> try simp (maxSteps := 4000000) (disch := first | assumption | omega) only [go_sem, *, rR_len, hg, h, o, pairsOk, ↓bin_eql, ↓bin_neq, Nat.reduceAdd, Nat.reduceSub, Nat.reduceMul, Nat.reduceBEq, Nat.reduceLeDiff, Nat.reduceLT, Nat.reduceDiv, Nat.reduceMod, drwK_some, disj, ordered, ancs])
theorem eqRuleS_ok (xs : List GRule) (hx : xs.length ≤ maxLen) : fnL Try.prog T L0 19 [.c (.d (.sl 3 (rR xs))), .c (.d (.sl 3 (rR xs)))] [] = some (.one (.c (.d (.v (.bool (true))))), []) := by
  have L := eqRuleS_loop xs hx xs.length 0 (by omega) (by omega)
  refine fnL_run rfl N19 Try.func19 U19 ?_; have o := o19; simp only [OE, opsR, cqR, subR, chi, Try.f19] at o
  (try simp (maxSteps := 4000000) (disch := first | assumption | omega) only [go_sem, *, rR_len, L, o, pairsOk, ↓bin_eql, ↓bin_neq, Nat.reduceAdd, Nat.reduceSub, Nat.reduceMul, Nat.reduceBEq, Nat.reduceLeDiff, Nat.reduceLT, Nat.reduceDiv, Nat.reduceMod, drwK_some, disj, ordered, ancs]); repeat' ((first | with_reducible first | refine caK (fun hb => ?_) fun hb => ?_ | refine caG (fun hb => ?_) fun hb => ?_ | refine caP (fun hb => ?_) fun hb => ?_ | refine caH (fun hb => ?_) fun hb => ?_ | refine caQ (fun hb => ?_) fun hb => ?_ | refine ite_cases (fun hb => ?_) fun hb => ?_) <;> try simp (maxSteps := 4000000) (disch := first | assumption | omega) only [go_sem, *, rR_len, L, o, pairsOk, ↓bin_eql, ↓bin_neq, Nat.reduceAdd, Nat.reduceSub, Nat.reduceMul, Nat.reduceBEq, Nat.reduceLeDiff, Nat.reduceLT, Nat.reduceDiv, Nat.reduceMod, drwK_some, disj, ordered, ancs])
theorem eqProgram_ok (p : GProgram) (hp : p.ok) : fnL Try.prog T L0 8 [.agg (p.enc.map .d), .agg (p.enc.map .d)] [] = some (.one (.c (.d (.v (.bool (true))))), []) := by
  have hN := eqNodeS_ok p.Nodes hp.1.1 (fun x hx => (hp.1.2 x hx).2.2.1)
  have hR := eqRuleS_ok p.Rules hp.2.1
  clear hp
  refine fnL_run rfl N8 Try.func8 U8 ?_; have o := o8; simp only [OE, opsR, cqR, subR, chi, Try.f8] at o
  (try simp (maxSteps := 4000000) (disch := first | assumption | omega) only [go_sem, *, encP, hN, hR, o, pairsOk, ↓bin_eql, ↓bin_neq, Nat.reduceAdd, Nat.reduceSub, Nat.reduceMul, Nat.reduceBEq, Nat.reduceLeDiff, Nat.reduceLT, Nat.reduceDiv, Nat.reduceMod, drwK_some, disj, ordered, ancs]); repeat' ((first | with_reducible first | refine caK (fun hb => ?_) fun hb => ?_ | refine caG (fun hb => ?_) fun hb => ?_ | refine caP (fun hb => ?_) fun hb => ?_ | refine caH (fun hb => ?_) fun hb => ?_ | refine caQ (fun hb => ?_) fun hb => ?_ | refine ite_cases (fun hb => ?_) fun hb => ?_) <;> try simp (maxSteps := 4000000) (disch := first | assumption | omega) only [go_sem, *, encP, hN, hR, o, pairsOk, ↓bin_eql, ↓bin_neq, Nat.reduceAdd, Nat.reduceSub, Nat.reduceMul, Nat.reduceBEq, Nat.reduceLeDiff, Nat.reduceLT, Nat.reduceDiv, Nat.reduceMod, drwK_some, disj, ordered, ancs])
theorem szNs_kids : ∀ (xs : List GNode) (l : Int), 0 ≤ l → 0 ≤ szNs xs l → ∀ x ∈ xs, (x.Kids.length : Int) ≤ l
  | [], l, h, h1, x, hx => by cases hx
  | y :: ys, l, h, h1, x, hx => by
    have hy := szN_le y l h
    unfold szNs at h1
    split at h1
    · omega
    · rename_i hn
      rcases List.mem_cons.1 hx with rfl | hx
      · unfold szN at hn
        split at hn
        · omega
        · unfold szI at hn
          split at hn <;> omega
      · have := szNs_kids ys (szN y l) (by omega) h1 x hx
        omega
theorem szP_small (p : GProgram) (l : Int) (hl : 0 ≤ l) (h : ¬ szP p l < 0) : (p.Nodes.length : Int) ≤ l ∧ (p.Rules.length : Int) ≤ l ∧ ∀ x ∈ p.Nodes, (x.Kids.length : Int) ≤ l := by
  unfold szP at h
  by_cases h1 : l - (p.Nodes.length : Int) < 0
  · rw [if_pos h1] at h
    simp at h
  · rw [if_neg h1] at h
    have h2 := szNs_le p.Nodes (l - p.Nodes.length) (by omega)
    by_cases h3 : szNs p.Nodes (l - p.Nodes.length) < 0
    · rw [if_pos h3] at h
      omega
    · rw [if_neg h3] at h
      have h4 := szNs_kids p.Nodes (l - p.Nodes.length) (by omega) (by omega)
      refine ⟨by omega, ?_, fun x hx => ?_⟩
      · split at h <;> omega
      · have := h4 x hx
        omega
theorem main_of (rd : List UInt8 → Bool) (hR1 : Reads 40 rd) (hR2 : Reads 48 rd) (h24 : ∀ s, rd s = true → s.length ≤ 24) (p : GProgram) (hp : p.ok) : fnL Try.prog T L0 3 [.agg (p.enc.map .d)] [] = some (.one (.c (.d (.v (.bool (true))))), []) := by
  have hz := szProgram_ok p 1048576 (by omega) hp
  by_cases hs : szP p 1048576 < 0
  · generalize szP p 1048576 = r at hz hs
    clear hR1 hR2 h24
    refine fnL_run rfl N3 Try.func3 U3 ?_; have o := o3; simp only [OE, opsR, cqR, subR, chi, Try.f3] at o
    simp only [encP, List.map_cons, List.map_nil] at hz ⊢
    (try simp (maxSteps := 4000000) (disch := first | assumption | omega) only [go_sem, *, hz, o, pairsOk, ↓bin_eql, ↓bin_neq, Nat.reduceAdd, Nat.reduceSub, Nat.reduceMul, Nat.reduceBEq, Nat.reduceLeDiff, Nat.reduceLT, Nat.reduceDiv, Nat.reduceMod, drwK_some, disj, ordered, ancs]); repeat' ((first | with_reducible first | refine caK (fun hb => ?_) fun hb => ?_ | refine caG (fun hb => ?_) fun hb => ?_ | refine caP (fun hb => ?_) fun hb => ?_ | refine caH (fun hb => ?_) fun hb => ?_ | refine caQ (fun hb => ?_) fun hb => ?_ | refine ite_cases (fun hb => ?_) fun hb => ?_) <;> try simp (maxSteps := 4000000) (disch := first | assumption | omega) only [go_sem, *, hz, o, pairsOk, ↓bin_eql, ↓bin_neq, Nat.reduceAdd, Nat.reduceSub, Nat.reduceMul, Nat.reduceBEq, Nat.reduceLeDiff, Nat.reduceLT, Nat.reduceDiv, Nat.reduceMod, drwK_some, disj, ordered, ancs])
  · obtain ⟨s1, s2, s3⟩ := szP_small p 1048576 (by omega) hs
    have ht := toProgram_ok p (by omega) (by omega) (fun x hx => by have := s3 x hx; omega)
    have h1 := sizeOf_ok rd hR1 h24 p hp
    have h2 := ssizeOf_ok rd hR2 h24 p hp
    have he := eqProgram_ok p hp
    generalize szP p 1048576 = r at hz hs
    generalize sizeL rd p = q at h1 h2
    clear hR1 hR2 h24 s3 hp
    refine fnL_run rfl N3 Try.func3 U3 ?_; have o := o3; simp only [OE, opsR, cqR, subR, chi, Try.f3] at o
    simp only [encP, List.map_cons, List.map_nil] at hz ht h1 h2 he ⊢
    (try simp (maxSteps := 4000000) (disch := first | assumption | omega) only [go_sem, *, hz, ht, h1, h2, he, o, pairsOk, ↓bin_eql, ↓bin_neq, Nat.reduceAdd, Nat.reduceSub, Nat.reduceMul, Nat.reduceBEq, Nat.reduceLeDiff, Nat.reduceLT, Nat.reduceDiv, Nat.reduceMod, drwK_some, disj, ordered, ancs]); repeat' ((first | with_reducible first | refine caK (fun hb => ?_) fun hb => ?_ | refine caG (fun hb => ?_) fun hb => ?_ | refine caP (fun hb => ?_) fun hb => ?_ | refine caH (fun hb => ?_) fun hb => ?_ | refine caQ (fun hb => ?_) fun hb => ?_ | refine ite_cases (fun hb => ?_) fun hb => ?_) <;> try simp (maxSteps := 4000000) (disch := first | assumption | omega) only [go_sem, *, hz, ht, h1, h2, he, o, pairsOk, ↓bin_eql, ↓bin_neq, Nat.reduceAdd, Nat.reduceSub, Nat.reduceMul, Nat.reduceBEq, Nat.reduceLeDiff, Nat.reduceLT, Nat.reduceDiv, Nat.reduceMod, drwK_some, disj, ordered, ancs])
end
end Go.Vsi
