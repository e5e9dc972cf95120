/- What the functions of the program, of the reference and of the law do (a part of it). -/
import Derived.Test.YtaambigpdmnncaaP2
namespace Go.Vsi
open Go.Proofs
noncomputable section
set_option maxRecDepth 100000
set_option maxHeartbeats 4000000
set_option linter.unusedSimpArgs false
set_option linter.unusedVariables false
attribute [local go_sem] List.isEmpty_nil Bool.true_or Bool.and_true Bool.and_self Bool.false_eq_true Bool.not_true Bool.not_false List.set_cons_zero List.set_cons_succ frzSt wantedA evA constW ofVal plain oneOf noUp toVal cellVal putA startA List.length_cons List.length_nil List.map_cons List.map_nil List.replicate List.cons_append List.nil_append List.getElem?_cons_succ List.getElem?_cons_zero List.getElem?_toArray List.set upd Option.bind resA resOne giveA seenOf idsAt reach renH renW renV renS renB idsW idsV idsS frzW frzV frzS List.filter_nil List.range_zero List.flatMap_nil List.flatMap_cons List.append_nil List.range List.range.loop sliceLen intV List.length_map one partA ordOf canon junkBut List.elem_cons List.elem_nil Bool.false_or Bool.or_false Bool.or_true cond_true cond_false firstReg evL opTmps footA cut callOk List.all_nil List.all_cons Op.operands Array.toList List.filterMap_cons List.filterMap_nil lendCall ownCall lendVs lendV lendS plainW plainV plainS List.zipIdx_nil hpOf Array.toList_map idsB natBle beq_self_eq_true Int.toNat_natCast Option.map_some Option.map_none ix cellsV Nat.zero_add List.any_nil List.any_cons List.take_zero List.take_succ_cons List.take_nil List.drop_succ_cons List.drop_zero List.drop_nil toD toDs List.filter_cons Nat.zero_le Nat.le_refl frzH ite_true ite_false if_true if_false stpO_some opsO_nil opsO_cons stpD_some nthD_some drawO_nil drawO_cons decTrue decFalse callA natBeq decT decF B_size B_mk B_empty B_append B_extract decide_eq_true_eq Bool.not_eq_true' decide_eq_false_iff_not Bool.and_eq_true Bool.or_eq_true boundsA sliceA B_toList Bool.and_false Bool.false_and Bool.true_and backOf List.zipIdx_cons Option.getD_some Option.getD_none Nat.sub_self fillA rowsOf toRows List.flatten_cons List.flatten_nil appendA sliceRows lendSs capPtr opO_pick opO_move opO_assign opO_extract opO_nilCheck opO_unOp opO_binOp opO_convert opO_index opO_field opO_alloc opO_box opO_build opO_buildSlice opO_makeSlice opO_load opO_store opO_fieldAddr opO_indexAddr opO_slice opO_makeFunc opO_builtin opO_fn regK_some lopK_some lopK_ite map_get endA condK_true condK_false grdO_true grdO_false grdD_true grdD_false pickO_true pickO_false if_pos if_neg eqI_self eqI_t eqI_f true_and and_true and_self not_true_eq_false not_false_eq_true Bool.not_not Go.Call.operands closedB List.all_append List.filterMap_append Array.toList_append List.flatMap_append Bool.or_self List.getElem?_nil Bool.true_beq Bool.false_beq G29 I3 S3 C3 A3 B3 Try.underlying3 Z3 I9 S9 C9 A9 B9 Try.underlying9 Z9 I28 S28 C28 A28 B28 Try.underlying28 E28 Z28 I29 S29 C29 A29 B29 Try.underlying29 E29 Z29 I31 S31 C31 A31 B31 Try.underlying31 Z31 I47 S47 C47 A47 B47 Try.underlying47 E47 Z47 I54 S54 C54 A54 B54 Try.underlying54 Z54 K29_3 O29_3 H26 Y26 H42 Y42 H43 Y43 R29 M29 G30 I52 S52 C52 A52 B52 Try.underlying52 Z52 R30 M30 G21 I4 S4 C4 A4 B4 Try.underlying4 Z4 K21_6 O21_6 H22 Y22 H23 Y23 H34 Y34 H35 Y35 R21 M21 G15 K15_2 K15_8 O15_2 O15_8 H27 Y27 H28 Y28 H29 Y29 H30 Y30 R15 M15
attribute [local go_sem ↓] ite_dec popK_nil popK_seq popK_seqE popK_seqR popK_blk popK_blkR popK_blkE endF_normal endF_ret q29_ q29_0 q29_1 q29_10 q29_11 q29_110 q29_1100 q29_1101 q29_11010 q29_110100 q29_1101000 q29_1101001 q29_11010010 q29_110100100 q29_110100101 q29_11010011 q29_110100110 q29_1101001100 q29_11010011000 q29_11010011001 q29_110100110010 q29_110100110011 q29_1101001100110 q29_11010011001100 q29_11010011001101 q29_110100110011010 q29_1101001100110100 q29_1101001100110101 q29_11010011001101010 q29_110100110011010100 q29_110100110011010101 q29_11010011001101011 q29_110100110011011 q29_1101001100110110 q29_1101001100110111 q29_11010011001101110 q29_110100110011011100 q29_110100110011011101 q29_1101001100110111010 q29_11010011001101110100 q29_11010011001101110101 q29_1101001100110111011 q29_11010011001101111 q29_110100110011011110 q29_110100110011011111 q29_1101001100110111110 q29_11010011001101111100 q29_11010011001101111101 q29_1101001100110111111 q29_110100111 q29_111 q29_1110 q29_11100 q29_11101 q29_111010 q29_1110100 q29_1110101 q29_11101010 q29_11101011 q29_111010110 q29_111010111 q29_1110101110 q29_1110101111 q29_1111 q29_11110 q29_11111 q30_ q30_0 q30_1 q30_10 q30_100 q30_101 q30_1010 q30_10100 q30_10101 q30_1011 q30_11 q30_110 q30_1100 q30_1101 q30_11010 q30_110100 q30_110101 q30_11011 q30_111 q30_1110 q30_1111 q21_ q21_0 q21_1 q21_10 q21_11 q21_110 q21_111 q21_1110 q21_11100 q21_11101 q21_111010 q21_1110100 q21_1110101 q21_111011 q21_1111 q21_11110 q21_111100 q21_111101 q21_1111010 q21_11110100 q21_111101000 q21_1111010000 q21_1111010001 q21_11110100010 q21_11110100011 q21_111101001 q21_1111010010 q21_11110100100 q21_111101001000 q21_1111010010000 q21_1111010010001 q21_11110100100010 q21_111101001000100 q21_111101001000101 q21_11110100100011 q21_111101001001 q21_1111010010010 q21_1111010010011 q21_11110100100110 q21_11110100100111 q21_111101001001110 q21_111101001001111 q21_1111010010011110 q21_11110100100111100 q21_11110100100111101 q21_1111010010011111 q21_1111010011 q21_11111 q21_111110 q21_111111 q15_ q15_0 q15_1 q15_10 q15_100 q15_101 q15_1010 q15_10100 q15_101000 q15_101001 q15_1010010 q15_10100100 q15_10100101 q15_1010011 q15_10100110 q15_101001100 q15_1010011000 q15_1010011001 q15_10100110010 q15_10100110011 q15_101001100110 q15_1010011001100 q15_1010011001101 q15_101001100111 q15_10100111 q15_11 q15_110 q15_1100 q15_1101 q15_11010 q15_110100 q15_1101000 q15_1101001 q15_11010010 q15_110100100 q15_110100101 q15_11010011 q15_110100110 q15_1101001100 q15_11010011000 q15_11010011001 q15_110100110010 q15_110100110011 q15_1101001100110 q15_11010011001100 q15_11010011001101 q15_1101001100111 q15_110100111 q15_111 q15_1110 q15_1111 bin_add bin_sub bin_mul bin_lss bin_leq bin_gtr bin_geq un_not min_int max_int wrap64' wrap_u8 wrap_i32 wrap64_byte wrap8_byte wrap32_byte bin_eqB bin_neB bin_addB BE4 BN4
def rN (xs : List GNode) : List (List D) := xs.map GNode.enc
def rR (xs : List GRule) : List (List D) := xs.map GRule.enc
theorem rN_len (xs : List GNode) : (rN xs).length = xs.length := by simp [rN]
theorem rR_len (xs : List GRule) : (rR xs).length = xs.length := by simp [rR]
theorem rN_get (xs : List GNode) (i : Nat) (h : i < xs.length) : (rN xs)[i]? = some (GNode.enc xs[i]) := map_get xs _ i h
theorem rR_get (xs : List GRule) (i : Nat) (h : i < xs.length) : (rR xs)[i]? = some (GRule.enc xs[i]) := map_get xs _ i h
theorem encP (p : GProgram) : p.enc = [.sl 3 (rN p.Nodes), .sl 3 (rR p.Rules)] := rfl
def opAt (p : GProgram) (k : Int) : Int := match p.Nodes[k.toNat]? with | some x => x.Op | none => 0
theorem opAt_get (p : GProgram) (k : Int) (h : k.toNat < p.Nodes.length) : opAt p k = (p.Nodes[k.toNat]'h).Op := by
  unfold opAt
  rw [List.getElem?_eq_getElem h]
def isEx (op : Int) : Bool := decide (1 ≤ op ∧ op ≤ 16)
def kidOK (xop i op : Int) : Bool := if xop = 22 ∧ 0 < i then !(isEx op || decide (op = 22)) else if xop = 24 then !isEx op else isEx op
def kidsOK (p : GProgram) (xop : Int) : List Int → Int → Bool
  | [], _ => true
  | k :: ks, i => kidOK xop i (opAt p k) && kidsOK p xop ks (i + 1)
theorem kidsFit_loop (p : GProgram) (x : GNode) (lo hi : Int) (hx : x.Kids.length ≤ maxLen) (hk : ∀ k ∈ x.Kids, 0 ≤ k ∧ k.toNat < p.Nodes.length) : ∀ (n : Nat) (i : Int), 0 ≤ i → i + n = x.Kids.length →
    loopC Try.prog T (fnL Try.prog T L0) 29 (cq g29 [0, 0, 1, 0, 1, 1]) ⟨[J, J, .one (.c (.ptr 0 0 0)), .one (.c (.ptr 1 0 0)), J, .one (.c (.d (.v (.int .i64 (lo))))), .one (.c (.d (.v (.int .i64 (hi))))), J, J, J, J, J, J, J, J, J, J, .one (.c (.d (.sl 1 (rI x.Kids)))), .one (.c (.d (.v (.int .i64 ((x.Kids.length : Int)))))), .one (.c (.d (.v (.int .i64 (i))))), J, J, J, J, J, J, J, J, J, J, J, J, J, J, J, J, J, J, J, J, J, J, J, J, J, J, J, J, J, J, J, J, J, J, J, J, J, J, J, J, J, J, J, J, J, J, J], hpOf [some (.var [.d (.sl 3 (rN p.Nodes)), .d (.sl 3 (rR p.Rules))]), some (.var (x.enc.map .d))], 2, 0⟩ =
      if kidsOK p x.Op (x.Kids.drop i.toNat) i = true then some (.exit 0, ⟨[J, J, J, .one (.c (.ptr 0 0 0)), J, .one (.c (.d (.v (.int .i64 (lo))))), .one (.c (.d (.v (.int .i64 (hi))))), J, J, J, J, J, J, J, J, J, J, J, J, J, J, J, J, J, J, J, J, J, J, J, J, J, J, J, J, J, J, J, J, J, J, J, J, J, J, J, J, J, J, J, J, J, J, J, J, J, J, J, J, J, J, J, J, J, J, J, J], hpOf [some (.var (x.enc.map .d))], 1, 0⟩) else some (.ret, ⟨[J, J, J, .one (.c (.ptr 0 0 0)), .one (.c (.d (.v (.bool (false))))), .one (.c (.d (.v (.int .i64 (lo))))), .one (.c (.d (.v (.int .i64 (hi))))), J, J, J, J, J, J, J, J, J, J, J, J, J, J, J, J, J, J, J, J, J, J, J, J, J, J, J, J, J, J, J, J, J, J, J, J, J, J, J, J, J, J, J, J, J, J, J, J, J, J, J, J, J, J, J, J, J, J, J, J], hpOf [some (.var (x.enc.map .d))], 1, 0⟩)
  | 0, i, h0, hn => by
    have : maxLen = 9223372036854775807 := rfl
    have o := o29_110100; simp only [OE, opsR, cqR, subR, chi, Try.f29] at o
    rw [loopC_round]
    (try simp (maxSteps := 4000000) (disch := first | assumption | omega) only [go_sem, *, rI, drop_end, kidsOK, GNode.enc, o, pairsOk, ↓bin_eqI, ↓bin_neI, Nat.reduceAdd, Nat.reduceSub, Nat.reduceMul, Nat.reduceBEq, Nat.reduceLeDiff, Nat.reduceLT, Nat.reduceDiv, Nat.reduceMod, drwK_some, disj, ordered, ancs]); repeat' ((first | with_reducible first | refine caK (fun hb => ?_) fun hb => ?_ | refine caG (fun hb => ?_) fun hb => ?_ | refine caP (fun hb => ?_) fun hb => ?_ | refine caH (fun hb => ?_) fun hb => ?_ | refine caQ (fun hb => ?_) fun hb => ?_ | refine ite_cases (fun hb => ?_) fun hb => ?_) <;> try simp (maxSteps := 4000000) (disch := first | assumption | omega) only [go_sem, *, rI, drop_end, kidsOK, GNode.enc, o, pairsOk, ↓bin_eqI, ↓bin_neI, Nat.reduceAdd, Nat.reduceSub, Nat.reduceMul, Nat.reduceBEq, Nat.reduceLeDiff, Nat.reduceLT, Nat.reduceDiv, Nat.reduceMod, drwK_some, disj, ordered, ancs])
  | n + 1, i, h0, hn => by
    have : maxLen = 9223372036854775807 := rfl
    have ih := kidsFit_loop p x lo hi hx hk n (i + 1) (by omega) (by omega)
    have hd := drop_at x.Kids i (by omega)
    obtain ⟨k1, k2⟩ := hk x.Kids[i.toNat] (List.getElem_mem _)
    have ho := opAt_get p x.Kids[i.toNat] k2
    rw [hd]
    clear hd hk
    simp only [rI, GNode.enc, List.map_cons, List.map_nil] at ih ⊢
    generalize hop : (p.Nodes[x.Kids[i.toNat].toNat]'k2).Op = op at ho
    simp only [kidsOK, ho]
    have o := o29_110100; simp only [OE, opsR, cqR, subR, chi, Try.f29] at o
    rw [loopC_round]
    (try simp (maxSteps := 4000000) (disch := first | assumption | omega) only [go_sem, *, rI, GNode.enc, rN_get, rN_len, isExpr_ok, o, pairsOk, ↓bin_eqI, ↓bin_neI, Nat.reduceAdd, Nat.reduceSub, Nat.reduceMul, Nat.reduceBEq, Nat.reduceLeDiff, Nat.reduceLT, Nat.reduceDiv, Nat.reduceMod, drwK_some, disj, ordered, ancs]); repeat' ((first | with_reducible first | refine caK (fun hb => ?_) fun hb => ?_ | refine caG (fun hb => ?_) fun hb => ?_ | refine caP (fun hb => ?_) fun hb => ?_ | refine caH (fun hb => ?_) fun hb => ?_ | refine caQ (fun hb => ?_) fun hb => ?_ | refine ite_cases (fun hb => ?_) fun hb => ?_) <;> try simp (maxSteps := 4000000) (disch := first | assumption | omega) only [go_sem, *, rI, GNode.enc, rN_get, rN_len, isExpr_ok, o, pairsOk, ↓bin_eqI, ↓bin_neI, Nat.reduceAdd, Nat.reduceSub, Nat.reduceMul, Nat.reduceBEq, Nat.reduceLeDiff, Nat.reduceLT, Nat.reduceDiv, Nat.reduceMod, drwK_some, disj, ordered, ancs])
    all_goals clear ih
    all_goals unfold kidOK isEx
    all_goals (first | rfl | (simp [*]; done) | ((try simp only [eqI, decide_eq_true_eq, decide_eq_false_iff_not, Bool.not_eq_true', Bool.not_eq_false'] at *); simp [*]; done) | ((try simp only [eqI, decide_eq_true_eq, decide_eq_false_iff_not, Bool.not_eq_true', Bool.not_eq_false'] at *); (try simp [*]); grind) | ((try simp only [eqI, decide_eq_true_eq, decide_eq_false_iff_not, Bool.not_eq_true', Bool.not_eq_false'] at *); grind))
def kidsFitB (p : GProgram) (x : GNode) : Bool := kidsOK p x.Op x.Kids 0 && decide ((kmany x.Op).1 ≤ (x.Kids.length : Int) ∧ (x.Kids.length : Int) ≤ (kmany x.Op).2)
theorem kidsFit_ok (p : GProgram) (x : GNode) (hx : x.Kids.length ≤ maxLen) (hk : ∀ k ∈ x.Kids, 0 ≤ k ∧ k.toNat < p.Nodes.length) : fnL Try.prog T L0 29 [.agg (p.enc.map .d), .agg (x.enc.map .d)] [] = some (.one (.c (.d (.v (.bool (kidsFitB p x))))), []) := by
  have L := kidsFit_loop p x (krange x.Op).1 (krange x.Op).2 hx hk x.Kids.length 0 (by omega) (by omega)
  simp only [rI, GNode.enc, List.map_cons, List.map_nil, Int.toNat_zero, List.drop_zero] at L
  unfold kidsFitB
  clear hk
  generalize kidsOK p x.Op x.Kids 0 = t at L ⊢
  generalize hkr : krange x.Op = kr at L
  have hk1 := kidRange_ok x.Op
  rw [hkr] at hk1
  cases t <;> simp only [if_true, if_false, Bool.false_eq_true] at L
  all_goals
    refine fnL_run rfl N29 Try.func29 U29 ?_; have o := o29; simp only [OE, opsR, cqR, subR, chi, Try.f29] at o
    (try simp (maxSteps := 4000000) (disch := first | assumption | omega) only [go_sem, *, encP, GNode.enc, hk1, within_ok, L, resOnes, o, pairsOk, ↓bin_eqI, ↓bin_neI, Nat.reduceAdd, Nat.reduceSub, Nat.reduceMul, Nat.reduceBEq, Nat.reduceLeDiff, Nat.reduceLT, Nat.reduceDiv, Nat.reduceMod, drwK_some, disj, ordered, ancs]); repeat' ((first | with_reducible first | refine caK (fun hb => ?_) fun hb => ?_ | refine caG (fun hb => ?_) fun hb => ?_ | refine caP (fun hb => ?_) fun hb => ?_ | refine caH (fun hb => ?_) fun hb => ?_ | refine caQ (fun hb => ?_) fun hb => ?_ | refine ite_cases (fun hb => ?_) fun hb => ?_) <;> try simp (maxSteps := 4000000) (disch := first | assumption | omega) only [go_sem, *, encP, GNode.enc, hk1, within_ok, L, resOnes, o, pairsOk, ↓bin_eqI, ↓bin_neI, Nat.reduceAdd, Nat.reduceSub, Nat.reduceMul, Nat.reduceBEq, Nat.reduceLeDiff, Nat.reduceLT, Nat.reduceDiv, Nat.reduceMod, drwK_some, disj, ordered, ancs])
    all_goals clear L hk1
    all_goals unfold kmany
    all_goals (first | rfl | (simp [*]; done) | ((try simp only [eqI, decide_eq_true_eq, decide_eq_false_iff_not, Bool.not_eq_true', Bool.not_eq_false'] at *); simp [*]; done) | ((try simp only [eqI, decide_eq_true_eq, decide_eq_false_iff_not, Bool.not_eq_true', Bool.not_eq_false'] at *); (try simp [*]); grind) | ((try simp only [eqI, decide_eq_true_eq, decide_eq_false_iff_not, Bool.not_eq_true', Bool.not_eq_false'] at *); grind))
def ruleOK (p : GProgram) (r : GRule) : Bool :=
  decide (1 ≤ r.When ∧ r.When ≤ 3) && decide (0 ≤ r.Do ∧ r.Do ≤ (p.Nodes.length : Int) - 1) && decide (opAt p r.Do = 24) &&
    (decide (r.If = -1) || (decide (r.When = 2) && decide (0 ≤ r.If ∧ r.If ≤ (p.Nodes.length : Int) - 1) && isEx (opAt p r.If)))
theorem ruleFits_ok (p : GProgram) (r : GRule) (hn : p.Nodes.length ≤ maxLen) : fnL Try.prog T L0 30 [.agg (p.enc.map .d), .agg (r.enc.map .d)] [] = some (.one (.c (.d (.v (.bool (ruleOK p r))))), []) := by
  have : maxLen = 9223372036854775807 := rfl
  refine fnL_run rfl N30 Try.func30 U30 ?_; have o := o30; simp only [OE, opsR, cqR, subR, chi, Try.f30] at o
  (try simp (maxSteps := 4000000) (disch := first | assumption | omega) only [go_sem, *, encP, GRule.enc, GNode.enc, rN_get, rN_len, within_ok, isExpr_ok, o, pairsOk, ↓bin_eqI, ↓bin_neI, Nat.reduceAdd, Nat.reduceSub, Nat.reduceMul, Nat.reduceBEq, Nat.reduceLeDiff, Nat.reduceLT, Nat.reduceDiv, Nat.reduceMod, drwK_some, disj, ordered, ancs]); repeat' ((first | with_reducible first | refine caK (fun hb => ?_) fun hb => ?_ | refine caG (fun hb => ?_) fun hb => ?_ | refine caP (fun hb => ?_) fun hb => ?_ | refine caH (fun hb => ?_) fun hb => ?_ | refine caQ (fun hb => ?_) fun hb => ?_ | refine ite_cases (fun hb => ?_) fun hb => ?_) <;> try simp (maxSteps := 4000000) (disch := first | assumption | omega) only [go_sem, *, encP, GRule.enc, GNode.enc, rN_get, rN_len, within_ok, isExpr_ok, o, pairsOk, ↓bin_eqI, ↓bin_neI, Nat.reduceAdd, Nat.reduceSub, Nat.reduceMul, Nat.reduceBEq, Nat.reduceLeDiff, Nat.reduceLT, Nat.reduceDiv, Nat.reduceMod, drwK_some, disj, ordered, ancs])
  all_goals unfold ruleOK isEx
  all_goals try rw [opAt_get p r.Do (by omega)]
  all_goals try rw [opAt_get p r.If (by omega)]
  all_goals (first | rfl | (simp [*]; done) | ((try simp only [eqI, decide_eq_true_eq, decide_eq_false_iff_not, Bool.not_eq_true', Bool.not_eq_false'] at *); simp [*]; done) | ((try simp only [eqI, decide_eq_true_eq, decide_eq_false_iff_not, Bool.not_eq_true', Bool.not_eq_false'] at *); (try simp [*]); grind) | ((try simp only [eqI, decide_eq_true_eq, decide_eq_false_iff_not, Bool.not_eq_true', Bool.not_eq_false'] at *); grind))
def inR (n k : Int) : Bool := decide (0 ≤ k ∧ k ≤ n - 1)
def kidsBoth (p : GProgram) (xop n : Int) : List Int → Int → Bool
  | [], _ => true
  | k :: ks, i => (inR n k && kidOK xop i (opAt p k)) && kidsBoth p xop n ks (i + 1)
theorem kidsBoth_eq (p : GProgram) (xop n : Int) : ∀ (ks : List Int) (i : Int), kidsBoth p xop n ks i = (ks.all (fun k => decide (0 ≤ k ∧ k ≤ n - 1)) && kidsOK p xop ks i)
  | [], _ => rfl
  | k :: ks, i => by
    rw [kidsBoth, kidsBoth_eq p xop n ks (i + 1), List.all_cons, kidsOK, inR]
    cases decide (0 ≤ k ∧ k ≤ n - 1) <;> cases kidOK xop i (opAt p k) <;> simp
theorem encN (x : GNode) : x.enc.map S.d = [.d (.v (.int .i64 x.Op)), .d (.v (.string (B x.Text))), .d (.sl 1 (rI x.Kids))] := rfl
theorem l06Node_loop (p : GProgram) (x : GNode) (n : Int) (hn : 0 ≤ n ∧ n < p.Nodes.length) (hN : p.Nodes.length ≤ maxLen) (hx : x.Kids.length ≤ maxLen) : ∀ (m : Nat) (i : Int), 0 ≤ i → i + m = x.Kids.length →
    loopC Try.prog T (fnL Try.prog T L0) 21 (cq g21 [0, 0, 1, 0, 1, 1, 1, 1]) ⟨[J, .one (.c (.d (.v (.int .i64 (n))))), .one (.c (.ptr 0 0 0)), J, J, .one (.c (.ptr 1 0 0)), J, J, .one (.c (.d (.v (.int .i64 (i))))), J, J, J, J, J, J, J, J, J, J, J, J, J, J, J, J, J, J, J, J, J, J, J, J, J, J, J, J, J, J, J, J, J, J, J, J, J, J, J, J, J, J, J, J, J, J, J, J, J, J, J, J, J, J, J, J, J, J, J, J, J, J, J, J, J, J, J, J, J, J, J, J, J, J, J, J, J, J, J, J, J, J], hpOf [some (.var [.d (.sl 3 (rN p.Nodes)), .d (.sl 3 (rR p.Rules))]), some (.var (x.enc.map .d))], 2, 0⟩ =
      if kidsBoth p x.Op n (x.Kids.drop i.toNat) i = true then some (.exit 0, ⟨[J, J, J, J, J, J, J, J, J, J, J, J, J, J, J, J, J, J, J, J, J, J, J, J, J, J, J, J, J, J, J, J, J, J, J, J, J, J, J, J, J, J, J, J, J, J, J, J, J, J, J, J, J, J, J, J, J, J, J, J, J, J, J, J, J, J, J, J, J, J, J, J, J, J, J, J, J, J, J, J, J, J, J, J, J, J, J, J, J, J, J], hpOf [], 0, 0⟩) else some (.ret, ⟨[J, J, J, J, .one (.c (.d (.v (.bool (false))))), J, J, J, J, J, J, J, J, J, J, J, J, J, J, J, J, J, J, J, J, J, J, J, J, J, J, J, J, J, J, J, J, J, J, J, J, J, J, J, J, J, J, J, J, J, J, J, J, J, J, J, J, J, J, J, J, J, J, J, J, J, J, J, J, J, J, J, J, J, J, J, J, J, J, J, J, J, J, J, J, J, J, J, J, J, J], hpOf [], 0, 0⟩)
  | 0, i, h0, hm => by
    have : maxLen = 9223372036854775807 := rfl
    simp only [encN, rI]
    have o := o21_11110100; simp only [OE, opsR, cqR, subR, chi, Try.f21] at o
    rw [loopC_round]
    (try simp (maxSteps := 4000000) (disch := first | assumption | omega) only [go_sem, *, drop_end, kidsBoth, o, pairsOk, ↓bin_eqI, ↓bin_neI, Nat.reduceAdd, Nat.reduceSub, Nat.reduceMul, Nat.reduceBEq, Nat.reduceLeDiff, Nat.reduceLT, Nat.reduceDiv, Nat.reduceMod, drwK_some, disj, ordered, ancs]); repeat' ((first | with_reducible first | refine caK (fun hb => ?_) fun hb => ?_ | refine caG (fun hb => ?_) fun hb => ?_ | refine caP (fun hb => ?_) fun hb => ?_ | refine caH (fun hb => ?_) fun hb => ?_ | refine caQ (fun hb => ?_) fun hb => ?_ | refine ite_cases (fun hb => ?_) fun hb => ?_) <;> try simp (maxSteps := 4000000) (disch := first | assumption | omega) only [go_sem, *, drop_end, kidsBoth, o, pairsOk, ↓bin_eqI, ↓bin_neI, Nat.reduceAdd, Nat.reduceSub, Nat.reduceMul, Nat.reduceBEq, Nat.reduceLeDiff, Nat.reduceLT, Nat.reduceDiv, Nat.reduceMod, drwK_some, disj, ordered, ancs])
  | m + 1, i, h0, hm => by
    have : maxLen = 9223372036854775807 := rfl
    have ih := l06Node_loop p x n hn hN hx m (i + 1) (by omega) (by omega)
    have hd := drop_at x.Kids i (by omega)
    rw [hd]
    clear hd
    have ho := opAt_get p x.Kids[i.toNat]
    by_cases hr : 0 ≤ x.Kids[i.toNat] ∧ x.Kids[i.toNat] ≤ n - 1
    · have ho2 := (opAt_get p x.Kids[i.toNat] (by omega)).symm
      clear ho
      simp only [encN, rI] at ih ⊢
      simp only [kidsBoth, inR, decT hr, Bool.true_and]
      generalize hop : opAt p x.Kids[i.toNat] = op at ho2 ⊢
      have o := o21_11110100; simp only [OE, opsR, cqR, subR, chi, Try.f21] at o
      rw [loopC_round]
      (try simp (maxSteps := 4000000) (disch := first | assumption | omega) only [go_sem, *, encN, GNode.enc, rN_get, rN_len, l06Ex_ok, in_ok, ho2, o, pairsOk, ↓bin_eqI, ↓bin_neI, Nat.reduceAdd, Nat.reduceSub, Nat.reduceMul, Nat.reduceBEq, Nat.reduceLeDiff, Nat.reduceLT, Nat.reduceDiv, Nat.reduceMod, drwK_some, disj, ordered, ancs]); repeat' ((first | with_reducible first | refine caK (fun hb => ?_) fun hb => ?_ | refine caG (fun hb => ?_) fun hb => ?_ | refine caP (fun hb => ?_) fun hb => ?_ | refine caH (fun hb => ?_) fun hb => ?_ | refine caQ (fun hb => ?_) fun hb => ?_ | refine ite_cases (fun hb => ?_) fun hb => ?_) <;> try simp (maxSteps := 4000000) (disch := first | assumption | omega) only [go_sem, *, encN, GNode.enc, rN_get, rN_len, l06Ex_ok, in_ok, ho2, o, pairsOk, ↓bin_eqI, ↓bin_neI, Nat.reduceAdd, Nat.reduceSub, Nat.reduceMul, Nat.reduceBEq, Nat.reduceLeDiff, Nat.reduceLT, Nat.reduceDiv, Nat.reduceMod, drwK_some, disj, ordered, ancs])
      all_goals clear ih
      all_goals unfold kidOK isEx
      all_goals (first | rfl | (simp [*]; done) | ((try simp only [eqI, decide_eq_true_eq, decide_eq_false_iff_not, Bool.not_eq_true', Bool.not_eq_false'] at *); simp [*]; done) | ((try simp only [eqI, decide_eq_true_eq, decide_eq_false_iff_not, Bool.not_eq_true', Bool.not_eq_false'] at *); (try simp [*]); grind) | ((try simp only [eqI, decide_eq_true_eq, decide_eq_false_iff_not, Bool.not_eq_true', Bool.not_eq_false'] at *); grind))
    · clear ho
      simp only [encN, rI] at ih ⊢
      simp only [kidsBoth, inR, decF hr, Bool.false_and, Bool.false_eq_true, if_false]
      clear ih
      have o := o21_11110100; simp only [OE, opsR, cqR, subR, chi, Try.f21] at o
      rw [loopC_round]
      (try simp (maxSteps := 4000000) (disch := first | assumption | omega) only [go_sem, *, encN, GNode.enc, rN_get, rN_len, l06Ex_ok, in_ok, o, pairsOk, ↓bin_eqI, ↓bin_neI, Nat.reduceAdd, Nat.reduceSub, Nat.reduceMul, Nat.reduceBEq, Nat.reduceLeDiff, Nat.reduceLT, Nat.reduceDiv, Nat.reduceMod, drwK_some, disj, ordered, ancs]); repeat' ((first | with_reducible first | refine caK (fun hb => ?_) fun hb => ?_ | refine caG (fun hb => ?_) fun hb => ?_ | refine caP (fun hb => ?_) fun hb => ?_ | refine caH (fun hb => ?_) fun hb => ?_ | refine caQ (fun hb => ?_) fun hb => ?_ | refine ite_cases (fun hb => ?_) fun hb => ?_) <;> try simp (maxSteps := 4000000) (disch := first | assumption | omega) only [go_sem, *, encN, GNode.enc, rN_get, rN_len, l06Ex_ok, in_ok, o, pairsOk, ↓bin_eqI, ↓bin_neI, Nat.reduceAdd, Nat.reduceSub, Nat.reduceMul, Nat.reduceBEq, Nat.reduceLeDiff, Nat.reduceLT, Nat.reduceDiv, Nat.reduceMod, drwK_some, disj, ordered, ancs])
def nodeOK (rd : List UInt8 → Bool) (p : GProgram) (x : GNode) (n : Int) : Bool :=
  decide (1 ≤ x.Op ∧ x.Op ≤ 25) && x.Kids.all (fun k => decide (0 ≤ k ∧ k ≤ n - 1)) && textOK rd x && kidsFitB p x
/-- What is told of a reader of patterns. -/
def Reads (f : FuncId) (rd : List UInt8 → Bool) : Prop := ∀ s : List UInt8, s.length ≤ maxLen → ∃ d : D, fnL Try.prog T L0 f [.c (.d (.v (.string (B (s)))))] [] = some (.tup [.agg [.d d], .c (.d (.v (.bool (rd s))))], [])
theorem l06Node_ok (rd : List UInt8 → Bool) (hR : Reads 48 rd) (h24 : ∀ s, rd s = true → s.length ≤ 24) (p : GProgram) (hN : p.Nodes.length ≤ maxLen) (n : Int) (hn : 0 ≤ n ∧ n < p.Nodes.length) (x : GNode) (hx : p.Nodes[n.toNat]? = some x) (ht : x.Text.length ≤ maxLen) (hk : x.Kids.length ≤ maxLen) :
    fnL Try.prog T L0 21 [.agg (p.enc.map .d), .c (.d (.v (.int .i64 (n))))] [] = some (.one (.c (.d (.v (.bool (nodeOK rd p x n))))), []) := by
  have hT := l06Text_ok rd x hR h24 ht
  have L := l06Node_loop p x n hn hN hk x.Kids.length 0 (by omega) (by omega)
  have hg : (rN p.Nodes)[n.toNat]? = some (GNode.enc x) := by
    rw [rN_get _ _ (by omega)]
    rw [List.getElem?_eq_getElem (by omega)] at hx
    exact congrArg some (congrArg GNode.enc (Option.some.inj hx))
  have hmany := l06Many_ok x.Op
  rw [kidsBoth_eq, Int.toNat_zero, List.drop_zero] at L
  simp only [encN, rI] at hT L
  clear hR h24 hx
  unfold nodeOK kidsFitB
  generalize textOK rd x = t0 at hT ⊢
  generalize kidsOK p x.Op x.Kids 0 = t1 at L ⊢
  generalize (x.Kids.all fun k => decide (0 ≤ k ∧ k ≤ n - 1)) = t2 at L ⊢
  generalize kmany x.Op = km at hmany ⊢
  have : maxLen = 9223372036854775807 := rfl
  cases h12 : (t2 && t1) <;> simp only [h12, if_true, if_false, Bool.false_eq_true] at L
  all_goals
    refine fnL_run rfl N21 Try.func21 U21 ?_; have o := o21; simp only [OE, opsR, cqR, subR, chi, Try.f21] at o
    (try simp (maxSteps := 4000000) (disch := first | assumption | omega) only [go_sem, *, encP, GNode.enc, hg, hT, hmany, in_ok, L, resOnes, o, pairsOk, ↓bin_eqI, ↓bin_neI, Nat.reduceAdd, Nat.reduceSub, Nat.reduceMul, Nat.reduceBEq, Nat.reduceLeDiff, Nat.reduceLT, Nat.reduceDiv, Nat.reduceMod, drwK_some, disj, ordered, ancs]); repeat' ((first | with_reducible first | refine caK (fun hb => ?_) fun hb => ?_ | refine caG (fun hb => ?_) fun hb => ?_ | refine caP (fun hb => ?_) fun hb => ?_ | refine caH (fun hb => ?_) fun hb => ?_ | refine caQ (fun hb => ?_) fun hb => ?_ | refine ite_cases (fun hb => ?_) fun hb => ?_) <;> try simp (maxSteps := 4000000) (disch := first | assumption | omega) only [go_sem, *, encP, GNode.enc, hg, hT, hmany, in_ok, L, resOnes, o, pairsOk, ↓bin_eqI, ↓bin_neI, Nat.reduceAdd, Nat.reduceSub, Nat.reduceMul, Nat.reduceBEq, Nat.reduceLeDiff, Nat.reduceLT, Nat.reduceDiv, Nat.reduceMod, drwK_some, disj, ordered, ancs])
    all_goals clear L hmany hT hg
    all_goals (first | rfl | (simp [*]; done) | ((try simp only [eqI, decide_eq_true_eq, decide_eq_false_iff_not, Bool.not_eq_true', Bool.not_eq_false'] at *); simp [*]; done) | ((try simp only [eqI, decide_eq_true_eq, decide_eq_false_iff_not, Bool.not_eq_true', Bool.not_eq_false'] at *); (try simp [*]); grind) | ((try simp only [eqI, decide_eq_true_eq, decide_eq_false_iff_not, Bool.not_eq_true', Bool.not_eq_false'] at *); grind))
def nodesOK (rd : List UInt8 → Bool) (p : GProgram) : List GNode → Int → Bool
  | [], _ => true
  | x :: xs, i => nodeOK rd p x i && nodesOK rd p xs (i + 1)
def progOK (rd : List UInt8 → Bool) (p : GProgram) : Bool := nodesOK rd p p.Nodes 0 && p.Rules.all (ruleOK p) && decide ((p.Nodes.length : Int) ≤ 200) && decide ((p.Rules.length : Int) ≤ 12)
theorem progOk_loop1 (rd : List UInt8 → Bool) (hR : Reads 40 rd) (h24 : ∀ s, rd s = true → s.length ≤ 24) (p : GProgram) (hp : p.ok) : ∀ (m : Nat) (i : Int), 0 ≤ i → i + m = p.Nodes.length →
    loopC Try.prog T (fnL Try.prog T L0) 15 (cq g15 [0, 0, 1, 0, 1]) ⟨[J, .one (.c (.ptr 0 0 0)), J, J, J, J, J, J, .one (.c (.d (.sl 3 (rN p.Nodes)))), .one (.c (.d (.v (.int .i64 ((p.Nodes.length : Int)))))), .one (.c (.d (.v (.int .i64 (i))))), J, J, J, J, J, J, J, J, J, J, J, J, J, J, J, J, J, J, J, J, J, J, J, J, J, J, J, J, J, J, J, J, J, J, J, J, J, J, J, J, J, J, J, J, J, J, J, J, J], hpOf [some (.var [.d (.sl 3 (rN p.Nodes)), .d (.sl 3 (rR p.Rules))])], 1, 0⟩ =
      if nodesOK rd p (p.Nodes.drop i.toNat) i = true then some (.exit 0, ⟨[J, .one (.c (.ptr 0 0 0)), J, J, J, J, J, J, J, J, J, J, J, J, J, J, J, J, J, J, J, J, J, J, J, J, J, J, J, J, J, J, J, J, J, J, J, J, J, J, J, J, J, J, J, J, J, J, J, J, J, J, J, J, J, J, J, J, J, J], hpOf [some (.var [.d (.sl 3 (rN p.Nodes)), .d (.sl 3 (rR p.Rules))])], 1, 0⟩) else some (.ret, ⟨[J, .one (.c (.ptr 0 0 0)), .one (.c (.d (.v (.bool (false))))), J, J, J, J, J, J, J, J, J, J, J, J, J, J, J, J, J, J, J, J, J, J, J, J, J, J, J, J, J, J, J, J, J, J, J, J, J, J, J, J, J, J, J, J, J, J, J, J, J, J, J, J, J, J, J, J, J], hpOf [some (.var [.d (.sl 3 (rN p.Nodes)), .d (.sl 3 (rR p.Rules))])], 1, 0⟩)
  | 0, i, h0, hm => by
    have : maxLen = 9223372036854775807 := rfl
    clear hR h24 hp
    have o := o15_10100; simp only [OE, opsR, cqR, subR, chi, Try.f15] at o
    rw [loopC_round]
    (try simp (maxSteps := 4000000) (disch := first | assumption | omega) only [go_sem, *, drop_end, nodesOK, o, pairsOk, ↓bin_eqI, ↓bin_neI, Nat.reduceAdd, Nat.reduceSub, Nat.reduceMul, Nat.reduceBEq, Nat.reduceLeDiff, Nat.reduceLT, Nat.reduceDiv, Nat.reduceMod, drwK_some, disj, ordered, ancs]); repeat' ((first | with_reducible first | refine caK (fun hb => ?_) fun hb => ?_ | refine caG (fun hb => ?_) fun hb => ?_ | refine caP (fun hb => ?_) fun hb => ?_ | refine caH (fun hb => ?_) fun hb => ?_ | refine caQ (fun hb => ?_) fun hb => ?_ | refine ite_cases (fun hb => ?_) fun hb => ?_) <;> try simp (maxSteps := 4000000) (disch := first | assumption | omega) only [go_sem, *, drop_end, nodesOK, o, pairsOk, ↓bin_eqI, ↓bin_neI, Nat.reduceAdd, Nat.reduceSub, Nat.reduceMul, Nat.reduceBEq, Nat.reduceLeDiff, Nat.reduceLT, Nat.reduceDiv, Nat.reduceMod, drwK_some, disj, ordered, ancs])
  | m + 1, i, h0, hm => by
    have : maxLen = 9223372036854775807 := rfl
    have ih := progOk_loop1 rd hR h24 p hp m (i + 1) (by omega) (by omega)
    have hl : i.toNat < p.Nodes.length := by omega
    have hd := drop_at p.Nodes i ⟨h0, hl⟩
    rw [hd]
    clear hd
    have hg := rN_get p.Nodes i.toNat hl
    obtain ⟨⟨hN, hpx⟩, _⟩ := hp
    obtain ⟨_, ht, hk, _⟩ := hpx p.Nodes[i.toNat] (List.getElem_mem _)
    clear hpx
    generalize p.Nodes[i.toNat] = x at hg ht hk ⊢
    have hT := textFits_ok rd x hR h24 ht
    have hA := kidsAhead_ok x.Kids i hk (by omega)
    have hF : (x.Kids.all fun k => decide (0 ≤ k ∧ k ≤ i - 1)) = true → _ := fun h => kidsFit_ok p x hk (fun k hk' => by have := of_decide_eq_true (List.all_eq_true.1 h k hk'); omega)
    simp only [encN, encP, rI, List.map_cons, List.map_nil] at hT hA hF
    clear hR h24
    rw [nodesOK, nodeOK]
    generalize textOK rd x = t0 at hT ⊢
    generalize kidsFitB p x = t1 at hF ⊢
    generalize (x.Kids.all fun k => decide (0 ≤ k ∧ k ≤ i - 1)) = t2 at hA hF ⊢
    have o := o15_10100; simp only [OE, opsR, cqR, subR, chi, Try.f15] at o
    rw [loopC_round]
    (try simp (maxSteps := 4000000) (disch := first | assumption | omega) only [go_sem, *, GNode.enc, hg, hT, hA, hF, within_ok, o, pairsOk, ↓bin_eqI, ↓bin_neI, Nat.reduceAdd, Nat.reduceSub, Nat.reduceMul, Nat.reduceBEq, Nat.reduceLeDiff, Nat.reduceLT, Nat.reduceDiv, Nat.reduceMod, drwK_some, disj, ordered, ancs]); repeat' ((first | with_reducible first | refine caK (fun hb => ?_) fun hb => ?_ | refine caG (fun hb => ?_) fun hb => ?_ | refine caP (fun hb => ?_) fun hb => ?_ | refine caH (fun hb => ?_) fun hb => ?_ | refine caQ (fun hb => ?_) fun hb => ?_ | refine ite_cases (fun hb => ?_) fun hb => ?_) <;> try simp (maxSteps := 4000000) (disch := first | assumption | omega) only [go_sem, *, GNode.enc, hg, hT, hA, hF, within_ok, o, pairsOk, ↓bin_eqI, ↓bin_neI, Nat.reduceAdd, Nat.reduceSub, Nat.reduceMul, Nat.reduceBEq, Nat.reduceLeDiff, Nat.reduceLT, Nat.reduceDiv, Nat.reduceMod, drwK_some, disj, ordered, ancs])
    all_goals clear ih hT hA hF hg
    all_goals (first | rfl | (simp [*]; done) | ((try simp only [eqI, decide_eq_true_eq, decide_eq_false_iff_not, Bool.not_eq_true', Bool.not_eq_false'] at *); simp [*]; done) | ((try simp only [eqI, decide_eq_true_eq, decide_eq_false_iff_not, Bool.not_eq_true', Bool.not_eq_false'] at *); (try simp [*]); grind) | ((try simp only [eqI, decide_eq_true_eq, decide_eq_false_iff_not, Bool.not_eq_true', Bool.not_eq_false'] at *); grind))
end
end Go.Vsi
