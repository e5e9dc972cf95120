/- What the functions of the program, of the reference and of the law do (a part of it). -/
import Derived.Test.YtaambigpdmnncaaP3
namespace Go.Vsi
open Go.Proofs
noncomputable section
set_option maxRecDepth 100000
set_option maxHeartbeats 4000000
set_option linter.unusedSimpArgs false
set_option linter.unusedVariables false
attribute [local go_sem] List.isEmpty_nil Bool.true_or Bool.and_true Bool.and_self Bool.false_eq_true Bool.not_true Bool.not_false List.set_cons_zero List.set_cons_succ frzSt wantedA evA constW ofVal plain oneOf noUp toVal cellVal putA startA List.length_cons List.length_nil List.map_cons List.map_nil List.replicate List.cons_append List.nil_append List.getElem?_cons_succ List.getElem?_cons_zero List.getElem?_toArray List.set upd Option.bind resA resOne giveA seenOf idsAt reach renH renW renV renS renB idsW idsV idsS frzW frzV frzS List.filter_nil List.range_zero List.flatMap_nil List.flatMap_cons List.append_nil List.range List.range.loop sliceLen intV List.length_map one partA ordOf canon junkBut List.elem_cons List.elem_nil Bool.false_or Bool.or_false Bool.or_true cond_true cond_false firstReg evL opTmps footA cut callOk List.all_nil List.all_cons Op.operands Array.toList List.filterMap_cons List.filterMap_nil lendCall ownCall lendVs lendV lendS plainW plainV plainS List.zipIdx_nil hpOf Array.toList_map idsB natBle beq_self_eq_true Int.toNat_natCast Option.map_some Option.map_none ix cellsV Nat.zero_add List.any_nil List.any_cons List.take_zero List.take_succ_cons List.take_nil List.drop_succ_cons List.drop_zero List.drop_nil toD toDs List.filter_cons Nat.zero_le Nat.le_refl frzH ite_true ite_false if_true if_false stpO_some opsO_nil opsO_cons stpD_some nthD_some drawO_nil drawO_cons decTrue decFalse callA natBeq decT decF B_size B_mk B_empty B_append B_extract decide_eq_true_eq Bool.not_eq_true' decide_eq_false_iff_not Bool.and_eq_true Bool.or_eq_true boundsA sliceA B_toList Bool.and_false Bool.false_and Bool.true_and backOf List.zipIdx_cons Option.getD_some Option.getD_none Nat.sub_self fillA rowsOf toRows List.flatten_cons List.flatten_nil appendA sliceRows lendSs capPtr opO_pick opO_move opO_assign opO_extract opO_nilCheck opO_unOp opO_binOp opO_convert opO_index opO_field opO_alloc opO_box opO_build opO_buildSlice opO_makeSlice opO_load opO_store opO_fieldAddr opO_indexAddr opO_slice opO_makeFunc opO_builtin opO_fn regK_some lopK_some lopK_ite map_get endA condK_true condK_false grdO_true grdO_false grdD_true grdD_false pickO_true pickO_false if_pos if_neg eqI_self eqI_t eqI_f true_and and_true and_self not_true_eq_false not_false_eq_true Bool.not_not Go.Call.operands closedB List.all_append List.filterMap_append Array.toList_append List.flatMap_append Bool.or_self List.getElem?_nil Bool.true_beq Bool.false_beq G15 I3 S3 C3 A3 B3 Try.underlying3 Z3 I9 S9 C9 A9 B9 Try.underlying9 Z9 I28 S28 C28 A28 B28 Try.underlying28 E28 Z28 I29 S29 C29 A29 B29 Try.underlying29 E29 Z29 I31 S31 C31 A31 B31 Try.underlying31 Z31 I47 S47 C47 A47 B47 Try.underlying47 E47 Z47 I52 S52 C52 A52 B52 Try.underlying52 Z52 I54 S54 C54 A54 B54 Try.underlying54 Z54 K15_2 K15_8 O15_2 O15_8 H26 Y26 H27 Y27 H28 Y28 H29 Y29 H30 Y30 R15 M15 G11 K11_4 K11_9 O11_4 O11_9 H21 Y21 H22 Y22 H23 Y23 R11 M11
attribute [local go_sem ↓] ite_dec popK_nil popK_seq popK_seqE popK_seqR popK_blk popK_blkR popK_blkE endF_normal endF_ret q15_ q15_0 q15_1 q15_10 q15_100 q15_101 q15_1010 q15_10100 q15_101000 q15_101001 q15_1010010 q15_10100100 q15_10100101 q15_1010011 q15_10100110 q15_101001100 q15_1010011000 q15_1010011001 q15_10100110010 q15_10100110011 q15_101001100110 q15_1010011001100 q15_1010011001101 q15_101001100111 q15_10100111 q15_11 q15_110 q15_1100 q15_1101 q15_11010 q15_110100 q15_1101000 q15_1101001 q15_11010010 q15_110100100 q15_110100101 q15_11010011 q15_110100110 q15_1101001100 q15_11010011000 q15_11010011001 q15_110100110010 q15_110100110011 q15_1101001100110 q15_11010011001100 q15_11010011001101 q15_1101001100111 q15_110100111 q15_111 q15_1110 q15_1111 q11_ q11_0 q11_1 q11_10 q11_100 q11_101 q11_1010 q11_10100 q11_10101 q11_1011 q11_11 q11_110 q11_1100 q11_1101 q11_11010 q11_110100 q11_1101000 q11_11010000 q11_11010001 q11_110100010 q11_110100011 q11_1101001 q11_11010010 q11_110100100 q11_1101001000 q11_1101001001 q11_11010010010 q11_110100100100 q11_110100100101 q11_11010010011 q11_11010011 q11_111 q11_1110 q11_11100 q11_11101 q11_111010 q11_1110100 q11_11101000 q11_111010000 q11_111010001 q11_1110100010 q11_1110100011 q11_11101001 q11_111010010 q11_1110100100 q11_11101001000 q11_11101001001 q11_111010010010 q11_1110100100100 q11_1110100100101 q11_11101001001010 q11_111010010010100 q11_111010010010101 q11_11101001001011 q11_111010010011 q11_1110100100110 q11_1110100100111 q11_11101001001110 q11_111010010011100 q11_111010010011101 q11_11101001001111 q11_111010011 q11_1111 q11_11110 q11_11111 bin_add bin_sub bin_mul bin_lss bin_leq bin_gtr bin_geq un_not min_int max_int wrap64' wrap_u8 wrap_i32 wrap64_byte wrap8_byte wrap32_byte bin_eqB bin_neB bin_addB
theorem encR (x : GRule) : x.enc.map S.d = [.d (.v (.int .i64 x.When)), .d (.v (.int .i64 x.If)), .d (.v (.int .i64 x.Do))] := rfl
theorem progOk_loop2 (p : GProgram) (hp : p.ok) : ∀ (m : Nat) (i : Int), 0 ≤ i → i + m = p.Rules.length →
    loopC Try.prog T (fnL Try.prog T L0) 15 (cq g15 [0, 0, 1, 0, 1, 1]) ⟨[J, .one (.c (.ptr 0 0 0)), J, J, J, J, J, J, J, J, J, J, J, J, J, J, J, J, J, J, J, J, J, J, J, J, J, J, J, J, J, J, J, J, J, J, J, J, J, .one (.c (.d (.sl 3 (rR p.Rules)))), .one (.c (.d (.v (.int .i64 ((p.Rules.length : Int)))))), .one (.c (.d (.v (.int .i64 (i))))), J, J, J, J, J, J, J, J, J, J, J, J, J, J, J, J, J, J], hpOf [some (.var [.d (.sl 3 (rN p.Nodes)), .d (.sl 3 (rR p.Rules))])], 1, 0⟩ =
      if (p.Rules.drop i.toNat).all (ruleOK p) = true then some (.exit 2, ⟨[J, .one (.c (.ptr 0 0 0)), J, J, J, J, J, J, J, J, J, J, J, J, J, J, J, J, J, J, J, J, J, J, J, J, J, J, J, J, J, J, J, J, J, J, J, J, J, J, J, J, J, J, J, J, J, J, J, J, J, J, J, J, J, J, J, J, J, J], hpOf [some (.var [.d (.sl 3 (rN p.Nodes)), .d (.sl 3 (rR p.Rules))])], 1, 0⟩) else some (.ret, ⟨[J, .one (.c (.ptr 0 0 0)), .one (.c (.d (.v (.bool (false))))), J, J, J, J, J, J, J, J, J, J, J, J, J, J, J, J, J, J, J, J, J, J, J, J, J, J, J, J, J, J, J, J, J, J, J, J, J, J, J, J, J, J, J, J, J, J, J, J, J, J, J, J, J, J, J, J, J], hpOf [some (.var [.d (.sl 3 (rN p.Nodes)), .d (.sl 3 (rR p.Rules))])], 1, 0⟩)
  | 0, i, h0, hm => by
    have : maxLen = 9223372036854775807 := rfl
    clear hp
    have o := o15_110100; simp only [OE, opsR, cqR, subR, chi, Try.f15] at o
    rw [loopC_round]
    (try simp (maxSteps := 4000000) (disch := first | assumption | omega) only [go_sem, *, drop_end, List.all_nil, o, pairsOk, ↓bin_eqI, ↓bin_neI, Nat.reduceAdd, Nat.reduceSub, Nat.reduceMul, Nat.reduceBEq, Nat.reduceLeDiff, Nat.reduceLT, Nat.reduceDiv, Nat.reduceMod, drwK_some, disj, ordered, ancs]); repeat' ((first | with_reducible first | refine caK (fun hb => ?_) fun hb => ?_ | refine caG (fun hb => ?_) fun hb => ?_ | refine caP (fun hb => ?_) fun hb => ?_ | refine caH (fun hb => ?_) fun hb => ?_ | refine caQ (fun hb => ?_) fun hb => ?_ | refine ite_cases (fun hb => ?_) fun hb => ?_) <;> try simp (maxSteps := 4000000) (disch := first | assumption | omega) only [go_sem, *, drop_end, List.all_nil, o, pairsOk, ↓bin_eqI, ↓bin_neI, Nat.reduceAdd, Nat.reduceSub, Nat.reduceMul, Nat.reduceBEq, Nat.reduceLeDiff, Nat.reduceLT, Nat.reduceDiv, Nat.reduceMod, drwK_some, disj, ordered, ancs])
  | m + 1, i, h0, hm => by
    have : maxLen = 9223372036854775807 := rfl
    have ih := progOk_loop2 p hp m (i + 1) (by omega) (by omega)
    have hl : i.toNat < p.Rules.length := by omega
    have hd := drop_at p.Rules i ⟨h0, hl⟩
    rw [hd]
    clear hd
    have hg := rR_get p.Rules i.toNat hl
    obtain ⟨⟨hN, _⟩, hR, _⟩ := hp
    generalize p.Rules[i.toNat] = x at hg ⊢
    have hF := ruleFits_ok p x hN
    simp only [encP, encR, List.map_cons, List.map_nil] at hF
    rw [List.all_cons]
    generalize ruleOK p x = t0 at hF ⊢
    have o := o15_110100; simp only [OE, opsR, cqR, subR, chi, Try.f15] at o
    rw [loopC_round]
    (try simp (maxSteps := 4000000) (disch := first | assumption | omega) only [go_sem, *, GRule.enc, hg, hF, o, pairsOk, ↓bin_eqI, ↓bin_neI, Nat.reduceAdd, Nat.reduceSub, Nat.reduceMul, Nat.reduceBEq, Nat.reduceLeDiff, Nat.reduceLT, Nat.reduceDiv, Nat.reduceMod, drwK_some, disj, ordered, ancs]); repeat' ((first | with_reducible first | refine caK (fun hb => ?_) fun hb => ?_ | refine caG (fun hb => ?_) fun hb => ?_ | refine caP (fun hb => ?_) fun hb => ?_ | refine caH (fun hb => ?_) fun hb => ?_ | refine caQ (fun hb => ?_) fun hb => ?_ | refine ite_cases (fun hb => ?_) fun hb => ?_) <;> try simp (maxSteps := 4000000) (disch := first | assumption | omega) only [go_sem, *, GRule.enc, hg, hF, o, pairsOk, ↓bin_eqI, ↓bin_neI, Nat.reduceAdd, Nat.reduceSub, Nat.reduceMul, Nat.reduceBEq, Nat.reduceLeDiff, Nat.reduceLT, Nat.reduceDiv, Nat.reduceMod, drwK_some, disj, ordered, ancs])
    all_goals clear ih hF hg
    all_goals (first | rfl | (simp [*]; done) | ((try simp only [eqI, decide_eq_true_eq, decide_eq_false_iff_not, Bool.not_eq_true', Bool.not_eq_false'] at *); simp [*]; done) | ((try simp only [eqI, decide_eq_true_eq, decide_eq_false_iff_not, Bool.not_eq_true', Bool.not_eq_false'] at *); (try simp [*]); grind) | ((try simp only [eqI, decide_eq_true_eq, decide_eq_false_iff_not, Bool.not_eq_true', Bool.not_eq_false'] at *); grind))
theorem progOk_ok (rd : List UInt8 → Bool) (hR : Reads 40 rd) (h24 : ∀ s, rd s = true → s.length ≤ 24) (p : GProgram) (hp : p.ok) : fnL Try.prog T L0 15 [.agg (p.enc.map .d)] [] = some (.one (.c (.d (.v (.bool (progOK rd p))))), []) := by
  have : maxLen = 9223372036854775807 := rfl
  have L1 := progOk_loop1 rd hR h24 p hp p.Nodes.length 0 (by omega) (by omega)
  have L2 := progOk_loop2 p hp p.Rules.length 0 (by omega) (by omega)
  obtain ⟨⟨hN, _⟩, hN2, _⟩ := hp
  rw [Int.toNat_zero, List.drop_zero] at L1 L2
  clear hR h24
  unfold progOK
  generalize nodesOK rd p p.Nodes 0 = t1 at L1 ⊢
  generalize p.Rules.all (ruleOK p) = t2 at L2 ⊢
  cases t1 <;> cases t2 <;> simp only [if_true, if_false, Bool.false_eq_true] at L1 L2
  all_goals
    refine fnL_run rfl N15 Try.func15 U15 ?_; have o := o15; simp only [OE, opsR, cqR, subR, chi, Try.f15] at o
    (try simp (maxSteps := 4000000) (disch := first | assumption | omega) only [go_sem, *, encP, rN_len, rR_len, L1, L2, o, pairsOk, ↓bin_eqI, ↓bin_neI, Nat.reduceAdd, Nat.reduceSub, Nat.reduceMul, Nat.reduceBEq, Nat.reduceLeDiff, Nat.reduceLT, Nat.reduceDiv, Nat.reduceMod, drwK_some, disj, ordered, ancs]); repeat' ((first | with_reducible first | refine caK (fun hb => ?_) fun hb => ?_ | refine caG (fun hb => ?_) fun hb => ?_ | refine caP (fun hb => ?_) fun hb => ?_ | refine caH (fun hb => ?_) fun hb => ?_ | refine caQ (fun hb => ?_) fun hb => ?_ | refine ite_cases (fun hb => ?_) fun hb => ?_) <;> try simp (maxSteps := 4000000) (disch := first | assumption | omega) only [go_sem, *, encP, rN_len, rR_len, L1, L2, o, pairsOk, ↓bin_eqI, ↓bin_neI, Nat.reduceAdd, Nat.reduceSub, Nat.reduceMul, Nat.reduceBEq, Nat.reduceLeDiff, Nat.reduceLT, Nat.reduceDiv, Nat.reduceMod, drwK_some, disj, ordered, ancs])
    all_goals clear L1 L2
    all_goals (first | rfl | (simp [*]; done) | ((try simp only [eqI, decide_eq_true_eq, decide_eq_false_iff_not, Bool.not_eq_true', Bool.not_eq_false'] at *); simp [*]; done) | ((try simp only [eqI, decide_eq_true_eq, decide_eq_false_iff_not, Bool.not_eq_true', Bool.not_eq_false'] at *); (try simp [*]); grind) | ((try simp only [eqI, decide_eq_true_eq, decide_eq_false_iff_not, Bool.not_eq_true', Bool.not_eq_false'] at *); grind))
theorem sProgOk_loop1 (rd : List UInt8 → Bool) (hR : Reads 48 rd) (h24 : ∀ s, rd s = true → s.length ≤ 24) (p : GProgram) (hp : p.ok) : ∀ (m : Nat) (i : Int), 0 ≤ i → i + m = p.Nodes.length →
    loopC Try.prog T (fnL Try.prog T L0) 11 (cq g11 [0, 0, 1, 0, 1, 1]) ⟨[J, .one (.c (.ptr 0 0 0)), J, .one (.c (.d (.v (.int .i64 (i))))), J, J, J, J, J, J, J, J, J, J, J, J, J, J, J, J, J, J, J, J, J, J, J, J, J, J, J, J, J, J, J, J, J, J, J, J, J, J, J, J, J, J, J, J, J, J, J, J, J, J, J, J, J, J, J, J, J, J, J, J, J, J, J, J, J, J, J, J, J, J, J, J, J, J, J, J, J, J, J, J, J, J, J, J, J, J, J, J], hpOf [some (.var [.d (.sl 3 (rN p.Nodes)), .d (.sl 3 (rR p.Rules))])], 1, 0⟩ =
      if nodesOK rd p (p.Nodes.drop i.toNat) i = true then some (.exit 0, ⟨[J, .one (.c (.ptr 0 0 0)), J, J, J, J, J, J, J, J, J, J, J, J, J, J, J, J, J, J, J, J, J, J, J, J, J, J, J, J, J, J, J, J, J, J, J, J, J, J, J, J, J, J, J, J, J, J, J, J, J, J, J, J, J, J, J, J, J, J, J, J, J, J, J, J, J, J, J, J, J, J, J, J, J, J, J, J, J, J, J, J, J, J, J, J, J, J, J, J, J, J], hpOf [some (.var [.d (.sl 3 (rN p.Nodes)), .d (.sl 3 (rR p.Rules))])], 1, 0⟩) else some (.ret, ⟨[J, .one (.c (.ptr 0 0 0)), .one (.c (.d (.v (.bool (false))))), J, J, J, J, J, J, J, J, J, J, J, J, J, J, J, J, J, J, J, J, J, J, J, J, J, J, J, J, J, J, J, J, J, J, J, J, J, J, J, J, J, J, J, J, J, J, J, J, J, J, J, J, J, J, J, J, J, J, J, J, J, J, J, J, J, J, J, J, J, J, J, J, J, J, J, J, J, J, J, J, J, J, J, J, J, J, J, J, J], hpOf [some (.var [.d (.sl 3 (rN p.Nodes)), .d (.sl 3 (rR p.Rules))])], 1, 0⟩)
  | 0, i, h0, hm => by
    have : maxLen = 9223372036854775807 := rfl
    clear hR h24
    obtain ⟨⟨hN, _⟩, _⟩ := hp
    have o := o11_110100; simp only [OE, opsR, cqR, subR, chi, Try.f11] at o
    rw [loopC_round]
    (try simp (maxSteps := 4000000) (disch := first | assumption | omega) only [go_sem, *, drop_end, nodesOK, rN_len, o, pairsOk, ↓bin_eqI, ↓bin_neI, Nat.reduceAdd, Nat.reduceSub, Nat.reduceMul, Nat.reduceBEq, Nat.reduceLeDiff, Nat.reduceLT, Nat.reduceDiv, Nat.reduceMod, drwK_some, disj, ordered, ancs]); repeat' ((first | with_reducible first | refine caK (fun hb => ?_) fun hb => ?_ | refine caG (fun hb => ?_) fun hb => ?_ | refine caP (fun hb => ?_) fun hb => ?_ | refine caH (fun hb => ?_) fun hb => ?_ | refine caQ (fun hb => ?_) fun hb => ?_ | refine ite_cases (fun hb => ?_) fun hb => ?_) <;> try simp (maxSteps := 4000000) (disch := first | assumption | omega) only [go_sem, *, drop_end, nodesOK, rN_len, o, pairsOk, ↓bin_eqI, ↓bin_neI, Nat.reduceAdd, Nat.reduceSub, Nat.reduceMul, Nat.reduceBEq, Nat.reduceLeDiff, Nat.reduceLT, Nat.reduceDiv, Nat.reduceMod, drwK_some, disj, ordered, ancs])
  | m + 1, i, h0, hm => by
    have : maxLen = 9223372036854775807 := rfl
    have ih := sProgOk_loop1 rd hR h24 p hp m (i + 1) (by omega) (by omega)
    have hl : i.toNat < p.Nodes.length := by omega
    have hd := drop_at p.Nodes i ⟨h0, hl⟩
    rw [hd]
    clear hd
    obtain ⟨⟨hN, hpx⟩, _⟩ := hp
    have hx := List.getElem?_eq_getElem hl
    obtain ⟨_, ht, hk, _⟩ := hpx p.Nodes[i.toNat] (List.getElem_mem _)
    clear hpx
    generalize p.Nodes[i.toNat] = x at hx ht hk ⊢
    have hF := l06Node_ok rd hR h24 p hN i ⟨h0, by omega⟩ x hx ht hk
    simp only [encP, List.map_cons, List.map_nil] at hF
    clear hR h24 hx
    rw [nodesOK]
    generalize nodeOK rd p x i = t0 at hF ⊢
    have o := o11_110100; simp only [OE, opsR, cqR, subR, chi, Try.f11] at o
    rw [loopC_round]
    (try simp (maxSteps := 4000000) (disch := first | assumption | omega) only [go_sem, *, GNode.enc, hF, rN_len, o, pairsOk, ↓bin_eqI, ↓bin_neI, Nat.reduceAdd, Nat.reduceSub, Nat.reduceMul, Nat.reduceBEq, Nat.reduceLeDiff, Nat.reduceLT, Nat.reduceDiv, Nat.reduceMod, drwK_some, disj, ordered, ancs]); repeat' ((first | with_reducible first | refine caK (fun hb => ?_) fun hb => ?_ | refine caG (fun hb => ?_) fun hb => ?_ | refine caP (fun hb => ?_) fun hb => ?_ | refine caH (fun hb => ?_) fun hb => ?_ | refine caQ (fun hb => ?_) fun hb => ?_ | refine ite_cases (fun hb => ?_) fun hb => ?_) <;> try simp (maxSteps := 4000000) (disch := first | assumption | omega) only [go_sem, *, GNode.enc, hF, rN_len, o, pairsOk, ↓bin_eqI, ↓bin_neI, Nat.reduceAdd, Nat.reduceSub, Nat.reduceMul, Nat.reduceBEq, Nat.reduceLeDiff, Nat.reduceLT, Nat.reduceDiv, Nat.reduceMod, drwK_some, disj, ordered, ancs])
    all_goals clear ih hF
    all_goals (first | rfl | (simp [*]; done) | ((try simp only [eqI, decide_eq_true_eq, decide_eq_false_iff_not, Bool.not_eq_true', Bool.not_eq_false'] at *); simp [*]; done) | ((try simp only [eqI, decide_eq_true_eq, decide_eq_false_iff_not, Bool.not_eq_true', Bool.not_eq_false'] at *); (try simp [*]); grind) | ((try simp only [eqI, decide_eq_true_eq, decide_eq_false_iff_not, Bool.not_eq_true', Bool.not_eq_false'] at *); grind))
theorem sProgOk_loop2 (p : GProgram) (hp : p.ok) : ∀ (m : Nat) (i : Int), 0 ≤ i → i + m = p.Rules.length →
    loopC Try.prog T (fnL Try.prog T L0) 11 (cq g11 [0, 0, 1, 0, 1, 1, 1]) ⟨[J, .one (.c (.ptr 0 0 0)), J, J, .one (.c (.d (.v (.int .i64 (i))))), J, J, J, J, J, J, J, J, J, J, J, J, J, J, J, J, J, J, J, J, J, J, J, J, J, J, J, J, J, J, J, J, J, J, J, J, J, J, J, J, J, J, J, J, J, J, J, J, J, J, J, J, J, J, J, J, J, J, J, J, J, J, J, J, J, J, J, J, J, J, J, J, J, J, J, J, J, J, J, J, J, J, J, J, J, J, J], hpOf [some (.var [.d (.sl 3 (rN p.Nodes)), .d (.sl 3 (rR p.Rules))])], 1, 0⟩ =
      if (p.Rules.drop i.toNat).all (ruleOK p) = true then some (.exit 2, ⟨[J, J, J, J, J, J, J, J, J, J, J, J, J, J, J, J, J, J, J, J, J, J, J, J, J, J, J, J, J, J, J, J, J, J, J, J, J, J, J, J, J, J, J, J, J, J, J, J, J, J, J, J, J, J, J, J, J, J, J, J, J, J, J, J, J, J, J, J, J, J, J, J, J, J, J, J, J, J, J, J, J, J, J, J, J, J, J, J, J, J, J, J], hpOf [], 0, 0⟩) else some (.ret, ⟨[J, J, .one (.c (.d (.v (.bool (false))))), J, J, J, J, J, J, J, J, J, J, J, J, J, J, J, J, J, J, J, J, J, J, J, J, J, J, J, J, J, J, J, J, J, J, J, J, J, J, J, J, J, J, J, J, J, J, J, J, J, J, J, J, J, J, J, J, J, J, J, J, J, J, J, J, J, J, J, J, J, J, J, J, J, J, J, J, J, J, J, J, J, J, J, J, J, J, J, J, J], hpOf [], 0, 0⟩)
  | 0, i, h0, hm => by
    have : maxLen = 9223372036854775807 := rfl
    obtain ⟨_, hN, _⟩ := hp
    have o := o11_1110100; simp only [OE, opsR, cqR, subR, chi, Try.f11] at o
    rw [loopC_round]
    (try simp (maxSteps := 4000000) (disch := first | assumption | omega) only [go_sem, *, drop_end, List.all_nil, rR_len, o, pairsOk, ↓bin_eqI, ↓bin_neI, Nat.reduceAdd, Nat.reduceSub, Nat.reduceMul, Nat.reduceBEq, Nat.reduceLeDiff, Nat.reduceLT, Nat.reduceDiv, Nat.reduceMod, drwK_some, disj, ordered, ancs]); repeat' ((first | with_reducible first | refine caK (fun hb => ?_) fun hb => ?_ | refine caG (fun hb => ?_) fun hb => ?_ | refine caP (fun hb => ?_) fun hb => ?_ | refine caH (fun hb => ?_) fun hb => ?_ | refine caQ (fun hb => ?_) fun hb => ?_ | refine ite_cases (fun hb => ?_) fun hb => ?_) <;> try simp (maxSteps := 4000000) (disch := first | assumption | omega) only [go_sem, *, drop_end, List.all_nil, rR_len, o, pairsOk, ↓bin_eqI, ↓bin_neI, Nat.reduceAdd, Nat.reduceSub, Nat.reduceMul, Nat.reduceBEq, Nat.reduceLeDiff, Nat.reduceLT, Nat.reduceDiv, Nat.reduceMod, drwK_some, disj, ordered, ancs])
  | m + 1, i, h0, hm => by
    have : maxLen = 9223372036854775807 := rfl
    have ih := sProgOk_loop2 p hp m (i + 1) (by omega) (by omega)
    have hl : i.toNat < p.Rules.length := by omega
    have hd := drop_at p.Rules i ⟨h0, hl⟩
    rw [hd]
    clear hd
    have hg := rR_get p.Rules i.toNat hl
    obtain ⟨⟨hN, _⟩, hRl, _⟩ := hp
    generalize p.Rules[i.toNat] = r at hg ⊢
    rw [List.all_cons]
    obtain ⟨t0, ht0⟩ : ∃ t, ruleOK p r = t := ⟨_, rfl⟩
    rw [ht0]
    have ht1 := ht0
    clear ht0
    unfold ruleOK isEx at ht1
    have ht2 := ht1
    clear ht1
    have o := o11_1110100; simp only [OE, opsR, cqR, subR, chi, Try.f11] at o
    rw [loopC_round]
    (try simp (maxSteps := 4000000) (disch := first | assumption | omega) only [go_sem, *, GRule.enc, GNode.enc, hg, in_ok, l06Ex_ok, rN_len, rR_len, rN_get, o, pairsOk, ↓bin_eqI, ↓bin_neI, Nat.reduceAdd, Nat.reduceSub, Nat.reduceMul, Nat.reduceBEq, Nat.reduceLeDiff, Nat.reduceLT, Nat.reduceDiv, Nat.reduceMod, drwK_some, disj, ordered, ancs]); repeat' ((first | with_reducible first | refine caK (fun hb => ?_) fun hb => ?_ | refine caG (fun hb => ?_) fun hb => ?_ | refine caP (fun hb => ?_) fun hb => ?_ | refine caH (fun hb => ?_) fun hb => ?_ | refine caQ (fun hb => ?_) fun hb => ?_ | refine ite_cases (fun hb => ?_) fun hb => ?_) <;> try simp (maxSteps := 4000000) (disch := first | assumption | omega) only [go_sem, *, GRule.enc, GNode.enc, hg, in_ok, l06Ex_ok, rN_len, rR_len, rN_get, o, pairsOk, ↓bin_eqI, ↓bin_neI, Nat.reduceAdd, Nat.reduceSub, Nat.reduceMul, Nat.reduceBEq, Nat.reduceLeDiff, Nat.reduceLT, Nat.reduceDiv, Nat.reduceMod, drwK_some, disj, ordered, ancs])
    all_goals clear ih hg
    all_goals try rw [opAt_get p r.Do (by omega)] at ht2
    all_goals try rw [opAt_get p r.If (by omega)] at ht2
    all_goals subst ht2
    all_goals (first | rfl | (simp [*]; done) | ((try simp only [eqI, decide_eq_true_eq, decide_eq_false_iff_not, Bool.not_eq_true', Bool.not_eq_false'] at *); simp [*]; done) | ((try simp only [eqI, decide_eq_true_eq, decide_eq_false_iff_not, Bool.not_eq_true', Bool.not_eq_false'] at *); (try simp [*]); grind) | ((try simp only [eqI, decide_eq_true_eq, decide_eq_false_iff_not, Bool.not_eq_true', Bool.not_eq_false'] at *); grind))
theorem sProgOk_ok (rd : List UInt8 → Bool) (hR : Reads 48 rd) (h24 : ∀ s, rd s = true → s.length ≤ 24) (p : GProgram) (hp : p.ok) : fnL Try.prog T L0 11 [.agg (p.enc.map .d)] [] = some (.one (.c (.d (.v (.bool (progOK rd p))))), []) := by
  have : maxLen = 9223372036854775807 := rfl
  have L1 := sProgOk_loop1 rd hR h24 p hp p.Nodes.length 0 (by omega) (by omega)
  have L2 := sProgOk_loop2 p hp p.Rules.length 0 (by omega) (by omega)
  obtain ⟨⟨hN, _⟩, hN2, _⟩ := hp
  rw [Int.toNat_zero, List.drop_zero] at L1 L2
  clear hR h24
  unfold progOK
  generalize nodesOK rd p p.Nodes 0 = t1 at L1 ⊢
  generalize p.Rules.all (ruleOK p) = t2 at L2 ⊢
  cases t1 <;> cases t2 <;> simp only [if_true, if_false, Bool.false_eq_true] at L1 L2
  all_goals
    refine fnL_run rfl N11 Try.func11 U11 ?_; have o := o11; simp only [OE, opsR, cqR, subR, chi, Try.f11] at o
    (try simp (maxSteps := 4000000) (disch := first | assumption | omega) only [go_sem, *, encP, rN_len, rR_len, L1, L2, o, pairsOk, ↓bin_eqI, ↓bin_neI, Nat.reduceAdd, Nat.reduceSub, Nat.reduceMul, Nat.reduceBEq, Nat.reduceLeDiff, Nat.reduceLT, Nat.reduceDiv, Nat.reduceMod, drwK_some, disj, ordered, ancs]); repeat' ((first | with_reducible first | refine caK (fun hb => ?_) fun hb => ?_ | refine caG (fun hb => ?_) fun hb => ?_ | refine caP (fun hb => ?_) fun hb => ?_ | refine caH (fun hb => ?_) fun hb => ?_ | refine caQ (fun hb => ?_) fun hb => ?_ | refine ite_cases (fun hb => ?_) fun hb => ?_) <;> try simp (maxSteps := 4000000) (disch := first | assumption | omega) only [go_sem, *, encP, rN_len, rR_len, L1, L2, o, pairsOk, ↓bin_eqI, ↓bin_neI, Nat.reduceAdd, Nat.reduceSub, Nat.reduceMul, Nat.reduceBEq, Nat.reduceLeDiff, Nat.reduceLT, Nat.reduceDiv, Nat.reduceMod, drwK_some, disj, ordered, ancs])
    all_goals clear L1 L2
    all_goals (first | rfl | (simp [*]; done) | ((try simp only [eqI, decide_eq_true_eq, decide_eq_false_iff_not, Bool.not_eq_true', Bool.not_eq_false'] at *); simp [*]; done) | ((try simp only [eqI, decide_eq_true_eq, decide_eq_false_iff_not, Bool.not_eq_true', Bool.not_eq_false'] at *); (try simp [*]); grind) | ((try simp only [eqI, decide_eq_true_eq, decide_eq_false_iff_not, Bool.not_eq_true', Bool.not_eq_false'] at *); grind))
end
end Go.Vsi
