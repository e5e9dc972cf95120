/- What the functions of the program, of the reference and of the law do (a part of it). -/
import Derived.Test.YtbmcobbcbepnfaaP5
namespace Go.Vsi
open Go.Proofs
noncomputable section
set_option maxRecDepth 100000
set_option maxHeartbeats 4000000
set_option linter.unusedSimpArgs false
set_option linter.unusedVariables false
attribute [local go_sem] List.isEmpty_nil Bool.true_or Bool.and_true Bool.and_self Bool.false_eq_true Bool.not_true Bool.not_false List.set_cons_zero List.set_cons_succ frzSt wantedA evA constW ofVal plain oneOf noUp toVal cellVal putA startA List.length_cons List.length_nil List.map_cons List.map_nil List.replicate List.cons_append List.nil_append List.getElem?_cons_succ List.getElem?_cons_zero List.getElem?_toArray List.set upd Option.bind resA resOne giveA seenOf idsAt reach renH renW renV renS renB idsW idsV idsS frzW frzV frzS List.filter_nil List.range_zero List.flatMap_nil List.flatMap_cons List.append_nil List.range List.range.loop sliceLen intV List.length_map one partA ordOf canon junkBut List.elem_cons List.elem_nil Bool.false_or Bool.or_false Bool.or_true cond_true cond_false firstReg evL opTmps footA cut callOk List.all_nil List.all_cons Op.operands Array.toList List.filterMap_cons List.filterMap_nil lendCall ownCall lendVs lendV lendS plainW plainV plainS List.zipIdx_nil hpOf Array.toList_map idsB natBle beq_self_eq_true Int.toNat_natCast Option.map_some Option.map_none ix cellsV Nat.zero_add List.any_nil List.any_cons List.take_zero List.take_succ_cons List.take_nil List.drop_succ_cons List.drop_zero List.drop_nil toD toDs List.filter_cons Nat.zero_le Nat.le_refl frzH ite_true ite_false if_true if_false stpO_some opsO_nil opsO_cons stpD_some nthD_some drawO_nil drawO_cons decTrue decFalse callA natBeq decT decF B_size B_mk B_empty B_append B_extract decide_eq_true_eq Bool.not_eq_true' decide_eq_false_iff_not Bool.and_eq_true Bool.or_eq_true boundsA sliceA B_toList Bool.and_false Bool.false_and Bool.true_and backOf List.zipIdx_cons Option.getD_some Option.getD_none Nat.sub_self fillA rowsOf toRows List.flatten_cons List.flatten_nil appendA sliceRows lendSs capPtr opO_pick opO_move opO_assign opO_extract opO_nilCheck opO_unOp opO_binOp opO_convert opO_index opO_field opO_alloc opO_box opO_build opO_buildSlice opO_makeSlice opO_load opO_store opO_fieldAddr opO_indexAddr opO_slice opO_makeFunc opO_builtin opO_fn regK_some lopK_some lopK_ite map_get endA preK_some preA_cons preA_nil thenP_some pre1 preId preRow narRow narCell outOf dropOut setO renO toO toOs toRowsO nodupB isArrS nestT appendN narOuts O.flat Int.natCast_nonneg decide_true decide_false preR_some preD_some condK_true condK_false grdO_true grdO_false grdD_true grdD_false pickO_true pickO_false if_pos if_neg eqI_self eqI_t eqI_f true_and and_true and_self not_true_eq_false not_false_eq_true Bool.not_not Go.Call.operands closedB List.all_append List.filterMap_append Array.toList_append List.flatMap_append Bool.or_self List.getElem?_nil Bool.true_beq Bool.false_beq G26 I3 S3 C3 A3 B3 Try.underlying3 Z3 I9 S9 C9 A9 B9 Try.underlying9 Z9 I22 S22 C22 A22 B22 Try.underlying22 E22 Z22 K26_2 O26_2 H50 Y50 R26 M26 G49 I34 S34 C34 A34 B34 Try.underlying34 E34 Z34 I94 S94 C94 A94 B94 Try.underlying94 Z94 K49_2 O49_2 R49 M49 G51 I37 S37 C37 A37 B37 Try.underlying37 E37 Z37 I97 S97 C97 A97 B97 Try.underlying97 Z97 K51_2 O51_2 R51 M51 G52 I38 S38 C38 A38 B38 Try.underlying38 E38 Z38 I99 S99 C99 A99 B99 Try.underlying99 Z99 K52_2 O52_2 R52 M52
attribute [local go_sem ↓] ite_dec popK_nil popK_seq popK_seqE popK_seqR popK_blk popK_blkR popK_blkE endF_normal endF_ret q26_ q26_0 q26_1 q26_10 q26_100 q26_101 q26_1010 q26_10100 q26_101000 q26_1010000 q26_1010001 q26_10100010 q26_10100011 q26_101001 q26_1010010 q26_10100100 q26_101001000 q26_101001001 q26_1010011 q26_11 q26_110 q26_111 q49_ q49_0 q49_1 q49_10 q49_100 q49_101 q49_1010 q49_10100 q49_101000 q49_1010000 q49_1010001 q49_10100010 q49_10100011 q49_101001 q49_1010010 q49_10100100 q49_101001000 q49_101001001 q49_1010010010 q49_1010010011 q49_10100100110 q49_10100100111 q49_1010011 q49_11 q49_110 q49_111 q51_ q51_0 q51_1 q51_10 q51_100 q51_101 q51_1010 q51_10100 q51_101000 q51_1010000 q51_1010001 q51_10100010 q51_10100011 q51_101001 q51_1010010 q51_10100100 q51_101001000 q51_101001001 q51_1010010010 q51_1010010011 q51_10100100110 q51_10100100111 q51_1010011 q51_11 q51_110 q51_111 q52_ q52_0 q52_1 q52_10 q52_100 q52_101 q52_1010 q52_10100 q52_101000 q52_1010000 q52_1010001 q52_10100010 q52_10100011 q52_101001 q52_1010010 q52_10100100 q52_101001000 q52_101001001 q52_1010010010 q52_1010010011 q52_10100100110 q52_10100100111 q52_101001001110 q52_101001001111 q52_1010010011110 q52_1010010011111 q52_1010011 q52_11 q52_110 q52_111 bin_add bin_sub bin_mul bin_lss bin_leq bin_gtr bin_geq un_not min_int max_int wrap64' wrap_u8 wrap_i32 wrap64_byte wrap8_byte wrap32_byte bin_eqB bin_neB bin_addB
def mS : Nat → Int → List (List UInt8)
  | 0, _ => []
  | n + 1, k => mT k :: mS n (k + 1)
def mIn : Nat → Int → List GInstr
  | 0, _ => []
  | n + 1, k => ⟨k, k + 1⟩ :: mIn n (k + 1 + 1)
def mV : Nat → Int → List GVar
  | 0, _ => []
  | n + 1, k => ⟨mT k, mT (k + 1)⟩ :: mV n (k + 1 + 1)
def mC : Nat → Int → List GCell
  | 0, _ => []
  | n + 1, k => ⟨mT k, mT (k + 1), mT (k + 1 + 1)⟩ :: mC n (k + 1 + 1 + 1)
theorem mS_len : ∀ (n : Nat) (k : Int), (mS n k).length = n
  | 0, _ => rfl
  | n + 1, k => by simp [mS, mS_len n]
theorem mIn_len : ∀ (n : Nat) (k : Int), (mIn n k).length = n
  | 0, _ => rfl
  | n + 1, k => by simp [mIn, mIn_len n]
theorem mV_len : ∀ (n : Nat) (k : Int), (mV n k).length = n
  | 0, _ => rfl
  | n + 1, k => by simp [mV, mV_len n]
theorem mC_len : ∀ (n : Nat) (k : Int), (mC n k).length = n
  | 0, _ => rfl
  | n + 1, k => by simp [mC, mC_len n]
def mStore (x : GStore) (k : Int) : GStore := ⟨mV x.Vars.length k, mC x.Cells.length (k + 2 * x.Vars.length), x.Out⟩
def mCode (x : GCode) (k : Int) : GCode := ⟨mS x.Texts.length k, mIn x.List.length (k + x.Texts.length), x.Begin, x.Line, x.End⟩
def mTask (x : GTask) (k : Int) : GTask := ⟨mS x.Lines.length k, k + x.Lines.length, k + x.Lines.length + 1, eqI ((k + x.Lines.length + 1 + 1).tmod 3) 0, ⟨mV x.Delta.Vars.length (k + x.Lines.length + 1 + 1 + 1), mC x.Delta.Cells.length (k + x.Lines.length + 1 + 1 + 1 + 2 * x.Delta.Vars.length), mT (k + x.Lines.length + 1 + 1 + 1 + 2 * x.Delta.Vars.length + 3 * x.Delta.Cells.length)⟩⟩
def kTask (x : GTask) (k : Int) : Int := k + x.Lines.length + 1 + 1 + 1 + 2 * x.Delta.Vars.length + 3 * x.Delta.Cells.length + 1
def mTs : List GTask → Int → List GTask
  | [], _ => []
  | x :: xs, k => mTask x k :: mTs xs (kTask x k)
def kTs : List GTask → Int → Int
  | [], k => k
  | x :: xs, k => kTs xs (kTask x k)
theorem kTask_ge (x : GTask) (k : Int) : k ≤ kTask x k := by unfold kTask; omega
theorem kTs_ge : ∀ (xs : List GTask) (k : Int), k ≤ kTs xs k
  | [], k => Int.le_refl k
  | x :: xs, k => Int.le_trans (kTask_ge x k) (kTs_ge xs _)

theorem markStringS_loop : ∀ (xs : List (List UInt8)) (A : List (List D)) (i k : Int) (n : Nat), i = A.length → n = A.length + xs.length → n ≤ 1048576 → 0 ≤ k → k + (xs.length : Int) ≤ 1000000000 →
    loopC Try.prog T (fnL Try.prog T L0) 26 (cq g26 [0, 0, 1, 0, 1]) ⟨[.one (.c (.arr 0 0 n)), .one (.c (.d (.v (.int .i64 (k))))), J, J, J, .one (.c (.d (.v (.int .i64 (i))))), J, J, J, J, J, J, J, J, J, J, J, J, J, J], hpOf [some (.arr 1 (A ++ rS xs))], 1, 1⟩ = some (.exit 0, ⟨[J, .one (.c (.d (.v (.int .i64 (k + (xs.length : Int)))))), J, J, J, J, J, J, J, J, J, J, J, J, J, J, J, J, J, J], hpOf [some (.arr 1 (A ++ rS (mS xs.length k)))], 1, 1⟩)
  | [], A, i, k, n, hi, hn, hx, hk, hb => by
    simp only [List.length_nil, Int.natCast_zero, Int.mul_zero, Int.add_zero, mS] at hn hb ⊢
    subst hi hn
    have o := o26_10100; simp only [OE, opsR, cqR, subR, chi, Try.f26] at o
    rw [loopC_round]
    (try simp (maxSteps := 4000000) (disch := first | assumption | omega) only [go_sem, *, rS_nil, o, ↓bin_eqI, ↓bin_neI, Nat.reduceAdd, Nat.reduceSub, Nat.reduceMul, Nat.reduceBEq, Nat.reduceLeDiff, Nat.reduceLT, Nat.reduceDiv, Nat.reduceMod]); repeat' ((first | with_reducible first | refine caK (fun hb => ?_) fun hb => ?_ | refine caG (fun hb => ?_) fun hb => ?_ | refine caP (fun hb => ?_) fun hb => ?_ | refine caH (fun hb => ?_) fun hb => ?_ | refine caQ (fun hb => ?_) fun hb => ?_ | refine ite_cases (fun hb => ?_) fun hb => ?_ | rw [drwK_ok rfl]) <;> try simp (maxSteps := 4000000) (disch := first | assumption | omega) only [go_sem, *, rS_nil, o, ↓bin_eqI, ↓bin_neI, Nat.reduceAdd, Nat.reduceSub, Nat.reduceMul, Nat.reduceBEq, Nat.reduceLeDiff, Nat.reduceLT, Nat.reduceDiv, Nat.reduceMod])
  | x :: xs, A, i, k, n, hi, hn, hx, hk, hb => by
    have ih := markStringS_loop xs (A ++ [[.v (.string (B (mT (k))))]]) (i + 1) (k + 1) n (by simp; omega) (by simp at hn ⊢; omega) hx (by omega) (by simp at hb; omega)
    have fG : ∀ r : List D, (A ++ r :: rS xs)[i.toNat]? = some r := fun r => mid_get A r _ _ (by omega)
    have fS : ∀ r r' : List D, (A ++ r :: rS xs).set i.toNat r' = A ++ r' :: rS xs := fun r r' => mid_set A r r' _ _ (by omega)
    simp only [List.append_assoc, List.singleton_append, List.length_cons] at ih hn hb ⊢
    rw [show k + ((xs.length + 1 : Nat) : Int) = k + 1 + (xs.length : Int) by omega]
    have t0 := markText_ok (k) (by omega)
    simp only [mS, rS_cons]
    rw [← ih]
    have q1 : 0 ≤ i := by omega
    have q2 : i < n := by omega
    clear ih hi hn
    generalize rS xs = R at fG fS ⊢
    have o := o26_10100; simp only [OE, opsR, cqR, subR, chi, Try.f26] at o
    rw [loopC_round]
    (try simp (maxSteps := 4000000) (disch := first | assumption | omega) only [go_sem, *, fG, fS, t0, o, ↓bin_eqI, ↓bin_neI, Nat.reduceAdd, Nat.reduceSub, Nat.reduceMul, Nat.reduceBEq, Nat.reduceLeDiff, Nat.reduceLT, Nat.reduceDiv, Nat.reduceMod]); repeat' ((first | with_reducible first | refine caK (fun hb => ?_) fun hb => ?_ | refine caG (fun hb => ?_) fun hb => ?_ | refine caP (fun hb => ?_) fun hb => ?_ | refine caH (fun hb => ?_) fun hb => ?_ | refine caQ (fun hb => ?_) fun hb => ?_ | refine ite_cases (fun hb => ?_) fun hb => ?_ | rw [drwK_ok rfl]) <;> try simp (maxSteps := 4000000) (disch := first | assumption | omega) only [go_sem, *, fG, fS, t0, o, ↓bin_eqI, ↓bin_neI, Nat.reduceAdd, Nat.reduceSub, Nat.reduceMul, Nat.reduceBEq, Nat.reduceLeDiff, Nat.reduceLT, Nat.reduceDiv, Nat.reduceMod])
theorem markStringS_ok (xs : List (List UInt8)) (k : Int) (hx : xs.length ≤ 1048576) (hk : 0 ≤ k) (hb : k + (xs.length : Int) ≤ 1000000000) : fnL Try.prog T L0 26 [.c (.arr 0 0 xs.length), .c (.d (.v (.int .i64 (k))))] [some (.arr 1 (rS xs))] = some (.one (.c (.d (.v (.int .i64 (k + (xs.length : Int)))))), [some (.arr 1 (rS (mS xs.length k)))]) := by
  have Lp := markStringS_loop xs [] 0 k xs.length rfl (by simp) hx hk hb
  simp only [List.nil_append] at Lp
  refine fnL_run rfl N26 Try.func26 U26 ?_; have o := o26; simp only [OE, opsR, cqR, subR, chi, Try.f26] at o
  (try simp (maxSteps := 4000000) (disch := first | assumption | omega) only [go_sem, *, Lp, o, ↓bin_eqI, ↓bin_neI, Nat.reduceAdd, Nat.reduceSub, Nat.reduceMul, Nat.reduceBEq, Nat.reduceLeDiff, Nat.reduceLT, Nat.reduceDiv, Nat.reduceMod]); repeat' ((first | with_reducible first | refine caK (fun hb => ?_) fun hb => ?_ | refine caG (fun hb => ?_) fun hb => ?_ | refine caP (fun hb => ?_) fun hb => ?_ | refine caH (fun hb => ?_) fun hb => ?_ | refine caQ (fun hb => ?_) fun hb => ?_ | refine ite_cases (fun hb => ?_) fun hb => ?_ | rw [drwK_ok rfl]) <;> try simp (maxSteps := 4000000) (disch := first | assumption | omega) only [go_sem, *, Lp, o, ↓bin_eqI, ↓bin_neI, Nat.reduceAdd, Nat.reduceSub, Nat.reduceMul, Nat.reduceBEq, Nat.reduceLeDiff, Nat.reduceLT, Nat.reduceDiv, Nat.reduceMod])

theorem markInstrS_loop : ∀ (xs : List (GInstr)) (A : List (List D)) (i k : Int) (n : Nat), i = A.length → n = A.length + xs.length → n ≤ 1048576 → 0 ≤ k → k + 2 * (xs.length : Int) ≤ 1000000000 →
    loopC Try.prog T (fnL Try.prog T L0) 49 (cq g49 [0, 0, 1, 0, 1]) ⟨[.one (.c (.arr 0 0 n)), .one (.c (.d (.v (.int .i64 (k))))), J, J, J, .one (.c (.d (.v (.int .i64 (i))))), J, J, J, J, J, J, J, J, J, J, J, J, J, J, J, J, J, J, J, J, J], hpOf [some (.arr 2 (A ++ rIn xs))], 1, 1⟩ = some (.exit 0, ⟨[J, .one (.c (.d (.v (.int .i64 (k + 2 * (xs.length : Int)))))), J, J, J, J, J, J, J, J, J, J, J, J, J, J, J, J, J, J, J, J, J, J, J, J, J], hpOf [some (.arr 2 (A ++ rIn (mIn xs.length k)))], 1, 1⟩)
  | [], A, i, k, n, hi, hn, hx, hk, hb => by
    simp only [List.length_nil, Int.natCast_zero, Int.mul_zero, Int.add_zero, mIn] at hn hb ⊢
    subst hi hn
    have o := o49_10100; simp only [OE, opsR, cqR, subR, chi, Try.f49] at o
    rw [loopC_round]
    (try simp (maxSteps := 4000000) (disch := first | assumption | omega) only [go_sem, *, rIn_nil, o, ↓bin_eqI, ↓bin_neI, Nat.reduceAdd, Nat.reduceSub, Nat.reduceMul, Nat.reduceBEq, Nat.reduceLeDiff, Nat.reduceLT, Nat.reduceDiv, Nat.reduceMod]); repeat' ((first | with_reducible first | refine caK (fun hb => ?_) fun hb => ?_ | refine caG (fun hb => ?_) fun hb => ?_ | refine caP (fun hb => ?_) fun hb => ?_ | refine caH (fun hb => ?_) fun hb => ?_ | refine caQ (fun hb => ?_) fun hb => ?_ | refine ite_cases (fun hb => ?_) fun hb => ?_ | rw [drwK_ok rfl]) <;> try simp (maxSteps := 4000000) (disch := first | assumption | omega) only [go_sem, *, rIn_nil, o, ↓bin_eqI, ↓bin_neI, Nat.reduceAdd, Nat.reduceSub, Nat.reduceMul, Nat.reduceBEq, Nat.reduceLeDiff, Nat.reduceLT, Nat.reduceDiv, Nat.reduceMod])
  | x :: xs, A, i, k, n, hi, hn, hx, hk, hb => by
    have ih := markInstrS_loop xs (A ++ [[.v (.int .i64 (k)), .v (.int .i64 (k + 1))]]) (i + 1) (k + 1 + 1) n (by simp; omega) (by simp at hn ⊢; omega) hx (by omega) (by simp at hb; omega)
    have fG : ∀ r : List D, (A ++ r :: rIn xs)[i.toNat]? = some r := fun r => mid_get A r _ _ (by omega)
    have fS : ∀ r r' : List D, (A ++ r :: rIn xs).set i.toNat r' = A ++ r' :: rIn xs := fun r r' => mid_set A r r' _ _ (by omega)
    simp only [List.append_assoc, List.singleton_append, List.length_cons] at ih hn hb ⊢
    rw [show k + 2 * ((xs.length + 1 : Nat) : Int) = k + 1 + 1 + 2 * (xs.length : Int) by omega]
    simp only [mIn, rIn_cons, GInstr.enc]
    rw [← ih]
    have q1 : 0 ≤ i := by omega
    have q2 : i < n := by omega
    clear ih hi hn
    generalize rIn xs = R at fG fS ⊢
    have o := o49_10100; simp only [OE, opsR, cqR, subR, chi, Try.f49] at o
    rw [loopC_round]
    (try simp (maxSteps := 4000000) (disch := first | assumption | omega) only [go_sem, *, fG, fS, o, ↓bin_eqI, ↓bin_neI, Nat.reduceAdd, Nat.reduceSub, Nat.reduceMul, Nat.reduceBEq, Nat.reduceLeDiff, Nat.reduceLT, Nat.reduceDiv, Nat.reduceMod]); repeat' ((first | with_reducible first | refine caK (fun hb => ?_) fun hb => ?_ | refine caG (fun hb => ?_) fun hb => ?_ | refine caP (fun hb => ?_) fun hb => ?_ | refine caH (fun hb => ?_) fun hb => ?_ | refine caQ (fun hb => ?_) fun hb => ?_ | refine ite_cases (fun hb => ?_) fun hb => ?_ | rw [drwK_ok rfl]) <;> try simp (maxSteps := 4000000) (disch := first | assumption | omega) only [go_sem, *, fG, fS, o, ↓bin_eqI, ↓bin_neI, Nat.reduceAdd, Nat.reduceSub, Nat.reduceMul, Nat.reduceBEq, Nat.reduceLeDiff, Nat.reduceLT, Nat.reduceDiv, Nat.reduceMod])
theorem markInstrS_ok (xs : List (GInstr)) (k : Int) (hx : xs.length ≤ 1048576) (hk : 0 ≤ k) (hb : k + 2 * (xs.length : Int) ≤ 1000000000) : fnL Try.prog T L0 49 [.c (.arr 0 0 xs.length), .c (.d (.v (.int .i64 (k))))] [some (.arr 2 (rIn xs))] = some (.one (.c (.d (.v (.int .i64 (k + 2 * (xs.length : Int)))))), [some (.arr 2 (rIn (mIn xs.length k)))]) := by
  have Lp := markInstrS_loop xs [] 0 k xs.length rfl (by simp) hx hk hb
  simp only [List.nil_append] at Lp
  refine fnL_run rfl N49 Try.func49 U49 ?_; have o := o49; simp only [OE, opsR, cqR, subR, chi, Try.f49] at o
  (try simp (maxSteps := 4000000) (disch := first | assumption | omega) only [go_sem, *, Lp, o, ↓bin_eqI, ↓bin_neI, Nat.reduceAdd, Nat.reduceSub, Nat.reduceMul, Nat.reduceBEq, Nat.reduceLeDiff, Nat.reduceLT, Nat.reduceDiv, Nat.reduceMod]); repeat' ((first | with_reducible first | refine caK (fun hb => ?_) fun hb => ?_ | refine caG (fun hb => ?_) fun hb => ?_ | refine caP (fun hb => ?_) fun hb => ?_ | refine caH (fun hb => ?_) fun hb => ?_ | refine caQ (fun hb => ?_) fun hb => ?_ | refine ite_cases (fun hb => ?_) fun hb => ?_ | rw [drwK_ok rfl]) <;> try simp (maxSteps := 4000000) (disch := first | assumption | omega) only [go_sem, *, Lp, o, ↓bin_eqI, ↓bin_neI, Nat.reduceAdd, Nat.reduceSub, Nat.reduceMul, Nat.reduceBEq, Nat.reduceLeDiff, Nat.reduceLT, Nat.reduceDiv, Nat.reduceMod])

theorem markVarS_loop : ∀ (xs : List (GVar)) (A : List (List D)) (i k : Int) (n : Nat), i = A.length → n = A.length + xs.length → n ≤ 1048576 → 0 ≤ k → k + 2 * (xs.length : Int) ≤ 1000000000 →
    loopC Try.prog T (fnL Try.prog T L0) 51 (cq g51 [0, 0, 1, 0, 1]) ⟨[.one (.c (.arr 0 0 n)), .one (.c (.d (.v (.int .i64 (k))))), J, J, J, .one (.c (.d (.v (.int .i64 (i))))), J, J, J, J, J, J, J, J, J, J, J, J, J, J, J, J, J, J, J, J, J, J, J], hpOf [some (.arr 2 (A ++ rV xs))], 1, 1⟩ = some (.exit 0, ⟨[J, .one (.c (.d (.v (.int .i64 (k + 2 * (xs.length : Int)))))), J, J, J, J, J, J, J, J, J, J, J, J, J, J, J, J, J, J, J, J, J, J, J, J, J, J, J], hpOf [some (.arr 2 (A ++ rV (mV xs.length k)))], 1, 1⟩)
  | [], A, i, k, n, hi, hn, hx, hk, hb => by
    simp only [List.length_nil, Int.natCast_zero, Int.mul_zero, Int.add_zero, mV] at hn hb ⊢
    subst hi hn
    have o := o51_10100; simp only [OE, opsR, cqR, subR, chi, Try.f51] at o
    rw [loopC_round]
    (try simp (maxSteps := 4000000) (disch := first | assumption | omega) only [go_sem, *, rV_nil, o, ↓bin_eqI, ↓bin_neI, Nat.reduceAdd, Nat.reduceSub, Nat.reduceMul, Nat.reduceBEq, Nat.reduceLeDiff, Nat.reduceLT, Nat.reduceDiv, Nat.reduceMod]); repeat' ((first | with_reducible first | refine caK (fun hb => ?_) fun hb => ?_ | refine caG (fun hb => ?_) fun hb => ?_ | refine caP (fun hb => ?_) fun hb => ?_ | refine caH (fun hb => ?_) fun hb => ?_ | refine caQ (fun hb => ?_) fun hb => ?_ | refine ite_cases (fun hb => ?_) fun hb => ?_ | rw [drwK_ok rfl]) <;> try simp (maxSteps := 4000000) (disch := first | assumption | omega) only [go_sem, *, rV_nil, o, ↓bin_eqI, ↓bin_neI, Nat.reduceAdd, Nat.reduceSub, Nat.reduceMul, Nat.reduceBEq, Nat.reduceLeDiff, Nat.reduceLT, Nat.reduceDiv, Nat.reduceMod])
  | x :: xs, A, i, k, n, hi, hn, hx, hk, hb => by
    have ih := markVarS_loop xs (A ++ [[.v (.string (B (mT (k)))), .v (.string (B (mT (k + 1))))]]) (i + 1) (k + 1 + 1) n (by simp; omega) (by simp at hn ⊢; omega) hx (by omega) (by simp at hb; omega)
    have fG : ∀ r : List D, (A ++ r :: rV xs)[i.toNat]? = some r := fun r => mid_get A r _ _ (by omega)
    have fS : ∀ r r' : List D, (A ++ r :: rV xs).set i.toNat r' = A ++ r' :: rV xs := fun r r' => mid_set A r r' _ _ (by omega)
    simp only [List.append_assoc, List.singleton_append, List.length_cons] at ih hn hb ⊢
    rw [show k + 2 * ((xs.length + 1 : Nat) : Int) = k + 1 + 1 + 2 * (xs.length : Int) by omega]
    have t0 := markText_ok (k) (by omega)
    have t1 := markText_ok (k + 1) (by omega)
    simp only [mV, rV_cons, GVar.enc]
    rw [← ih]
    have q1 : 0 ≤ i := by omega
    have q2 : i < n := by omega
    clear ih hi hn
    generalize rV xs = R at fG fS ⊢
    have o := o51_10100; simp only [OE, opsR, cqR, subR, chi, Try.f51] at o
    rw [loopC_round]
    (try simp (maxSteps := 4000000) (disch := first | assumption | omega) only [go_sem, *, fG, fS, t0, t1, o, ↓bin_eqI, ↓bin_neI, Nat.reduceAdd, Nat.reduceSub, Nat.reduceMul, Nat.reduceBEq, Nat.reduceLeDiff, Nat.reduceLT, Nat.reduceDiv, Nat.reduceMod]); repeat' ((first | with_reducible first | refine caK (fun hb => ?_) fun hb => ?_ | refine caG (fun hb => ?_) fun hb => ?_ | refine caP (fun hb => ?_) fun hb => ?_ | refine caH (fun hb => ?_) fun hb => ?_ | refine caQ (fun hb => ?_) fun hb => ?_ | refine ite_cases (fun hb => ?_) fun hb => ?_ | rw [drwK_ok rfl]) <;> try simp (maxSteps := 4000000) (disch := first | assumption | omega) only [go_sem, *, fG, fS, t0, t1, o, ↓bin_eqI, ↓bin_neI, Nat.reduceAdd, Nat.reduceSub, Nat.reduceMul, Nat.reduceBEq, Nat.reduceLeDiff, Nat.reduceLT, Nat.reduceDiv, Nat.reduceMod])
theorem markVarS_ok (xs : List (GVar)) (k : Int) (hx : xs.length ≤ 1048576) (hk : 0 ≤ k) (hb : k + 2 * (xs.length : Int) ≤ 1000000000) : fnL Try.prog T L0 51 [.c (.arr 0 0 xs.length), .c (.d (.v (.int .i64 (k))))] [some (.arr 2 (rV xs))] = some (.one (.c (.d (.v (.int .i64 (k + 2 * (xs.length : Int)))))), [some (.arr 2 (rV (mV xs.length k)))]) := by
  have Lp := markVarS_loop xs [] 0 k xs.length rfl (by simp) hx hk hb
  simp only [List.nil_append] at Lp
  refine fnL_run rfl N51 Try.func51 U51 ?_; have o := o51; simp only [OE, opsR, cqR, subR, chi, Try.f51] at o
  (try simp (maxSteps := 4000000) (disch := first | assumption | omega) only [go_sem, *, Lp, o, ↓bin_eqI, ↓bin_neI, Nat.reduceAdd, Nat.reduceSub, Nat.reduceMul, Nat.reduceBEq, Nat.reduceLeDiff, Nat.reduceLT, Nat.reduceDiv, Nat.reduceMod]); repeat' ((first | with_reducible first | refine caK (fun hb => ?_) fun hb => ?_ | refine caG (fun hb => ?_) fun hb => ?_ | refine caP (fun hb => ?_) fun hb => ?_ | refine caH (fun hb => ?_) fun hb => ?_ | refine caQ (fun hb => ?_) fun hb => ?_ | refine ite_cases (fun hb => ?_) fun hb => ?_ | rw [drwK_ok rfl]) <;> try simp (maxSteps := 4000000) (disch := first | assumption | omega) only [go_sem, *, Lp, o, ↓bin_eqI, ↓bin_neI, Nat.reduceAdd, Nat.reduceSub, Nat.reduceMul, Nat.reduceBEq, Nat.reduceLeDiff, Nat.reduceLT, Nat.reduceDiv, Nat.reduceMod])

theorem markCellS_loop : ∀ (xs : List (GCell)) (A : List (List D)) (i k : Int) (n : Nat), i = A.length → n = A.length + xs.length → n ≤ 1048576 → 0 ≤ k → k + 3 * (xs.length : Int) ≤ 1000000000 →
    loopC Try.prog T (fnL Try.prog T L0) 52 (cq g52 [0, 0, 1, 0, 1]) ⟨[.one (.c (.arr 0 0 n)), .one (.c (.d (.v (.int .i64 (k))))), J, J, J, .one (.c (.d (.v (.int .i64 (i))))), J, J, J, J, J, J, J, J, J, J, J, J, J, J, J, J, J, J, J, J, J, J, J, J, J, J, J, J, J, J, J], hpOf [some (.arr 3 (A ++ rC xs))], 1, 1⟩ = some (.exit 0, ⟨[J, .one (.c (.d (.v (.int .i64 (k + 3 * (xs.length : Int)))))), J, J, J, J, J, J, J, J, J, J, J, J, J, J, J, J, J, J, J, J, J, J, J, J, J, J, J, J, J, J, J, J, J, J, J], hpOf [some (.arr 3 (A ++ rC (mC xs.length k)))], 1, 1⟩)
  | [], A, i, k, n, hi, hn, hx, hk, hb => by
    simp only [List.length_nil, Int.natCast_zero, Int.mul_zero, Int.add_zero, mC] at hn hb ⊢
    subst hi hn
    have o := o52_10100; simp only [OE, opsR, cqR, subR, chi, Try.f52] at o
    rw [loopC_round]
    (try simp (maxSteps := 4000000) (disch := first | assumption | omega) only [go_sem, *, rC_nil, o, ↓bin_eqI, ↓bin_neI, Nat.reduceAdd, Nat.reduceSub, Nat.reduceMul, Nat.reduceBEq, Nat.reduceLeDiff, Nat.reduceLT, Nat.reduceDiv, Nat.reduceMod]); repeat' ((first | with_reducible first | refine caK (fun hb => ?_) fun hb => ?_ | refine caG (fun hb => ?_) fun hb => ?_ | refine caP (fun hb => ?_) fun hb => ?_ | refine caH (fun hb => ?_) fun hb => ?_ | refine caQ (fun hb => ?_) fun hb => ?_ | refine ite_cases (fun hb => ?_) fun hb => ?_ | rw [drwK_ok rfl]) <;> try simp (maxSteps := 4000000) (disch := first | assumption | omega) only [go_sem, *, rC_nil, o, ↓bin_eqI, ↓bin_neI, Nat.reduceAdd, Nat.reduceSub, Nat.reduceMul, Nat.reduceBEq, Nat.reduceLeDiff, Nat.reduceLT, Nat.reduceDiv, Nat.reduceMod])
  | x :: xs, A, i, k, n, hi, hn, hx, hk, hb => by
    have ih := markCellS_loop xs (A ++ [[.v (.string (B (mT (k)))), .v (.string (B (mT (k + 1)))), .v (.string (B (mT (k + 1 + 1))))]]) (i + 1) (k + 1 + 1 + 1) n (by simp; omega) (by simp at hn ⊢; omega) hx (by omega) (by simp at hb; omega)
    have fG : ∀ r : List D, (A ++ r :: rC xs)[i.toNat]? = some r := fun r => mid_get A r _ _ (by omega)
    have fS : ∀ r r' : List D, (A ++ r :: rC xs).set i.toNat r' = A ++ r' :: rC xs := fun r r' => mid_set A r r' _ _ (by omega)
    simp only [List.append_assoc, List.singleton_append, List.length_cons] at ih hn hb ⊢
    rw [show k + 3 * ((xs.length + 1 : Nat) : Int) = k + 1 + 1 + 1 + 3 * (xs.length : Int) by omega]
    have t0 := markText_ok (k) (by omega)
    have t1 := markText_ok (k + 1) (by omega)
    have t2 := markText_ok (k + 1 + 1) (by omega)
    simp only [mC, rC_cons, GCell.enc]
    rw [← ih]
    have q1 : 0 ≤ i := by omega
    have q2 : i < n := by omega
    clear ih hi hn
    generalize rC xs = R at fG fS ⊢
    have o := o52_10100; simp only [OE, opsR, cqR, subR, chi, Try.f52] at o
    rw [loopC_round]
    (try simp (maxSteps := 4000000) (disch := first | assumption | omega) only [go_sem, *, fG, fS, t0, t1, t2, o, ↓bin_eqI, ↓bin_neI, Nat.reduceAdd, Nat.reduceSub, Nat.reduceMul, Nat.reduceBEq, Nat.reduceLeDiff, Nat.reduceLT, Nat.reduceDiv, Nat.reduceMod]); repeat' ((first | with_reducible first | refine caK (fun hb => ?_) fun hb => ?_ | refine caG (fun hb => ?_) fun hb => ?_ | refine caP (fun hb => ?_) fun hb => ?_ | refine caH (fun hb => ?_) fun hb => ?_ | refine caQ (fun hb => ?_) fun hb => ?_ | refine ite_cases (fun hb => ?_) fun hb => ?_ | rw [drwK_ok rfl]) <;> try simp (maxSteps := 4000000) (disch := first | assumption | omega) only [go_sem, *, fG, fS, t0, t1, t2, o, ↓bin_eqI, ↓bin_neI, Nat.reduceAdd, Nat.reduceSub, Nat.reduceMul, Nat.reduceBEq, Nat.reduceLeDiff, Nat.reduceLT, Nat.reduceDiv, Nat.reduceMod])
theorem markCellS_ok (xs : List (GCell)) (k : Int) (hx : xs.length ≤ 1048576) (hk : 0 ≤ k) (hb : k + 3 * (xs.length : Int) ≤ 1000000000) : fnL Try.prog T L0 52 [.c (.arr 0 0 xs.length), .c (.d (.v (.int .i64 (k))))] [some (.arr 3 (rC xs))] = some (.one (.c (.d (.v (.int .i64 (k + 3 * (xs.length : Int)))))), [some (.arr 3 (rC (mC xs.length k)))]) := by
  have Lp := markCellS_loop xs [] 0 k xs.length rfl (by simp) hx hk hb
  simp only [List.nil_append] at Lp
  refine fnL_run rfl N52 Try.func52 U52 ?_; have o := o52; simp only [OE, opsR, cqR, subR, chi, Try.f52] at o
  (try simp (maxSteps := 4000000) (disch := first | assumption | omega) only [go_sem, *, Lp, o, ↓bin_eqI, ↓bin_neI, Nat.reduceAdd, Nat.reduceSub, Nat.reduceMul, Nat.reduceBEq, Nat.reduceLeDiff, Nat.reduceLT, Nat.reduceDiv, Nat.reduceMod]); repeat' ((first | with_reducible first | refine caK (fun hb => ?_) fun hb => ?_ | refine caG (fun hb => ?_) fun hb => ?_ | refine caP (fun hb => ?_) fun hb => ?_ | refine caH (fun hb => ?_) fun hb => ?_ | refine caQ (fun hb => ?_) fun hb => ?_ | refine ite_cases (fun hb => ?_) fun hb => ?_ | rw [drwK_ok rfl]) <;> try simp (maxSteps := 4000000) (disch := first | assumption | omega) only [go_sem, *, Lp, o, ↓bin_eqI, ↓bin_neI, Nat.reduceAdd, Nat.reduceSub, Nat.reduceMul, Nat.reduceBEq, Nat.reduceLeDiff, Nat.reduceLT, Nat.reduceDiv, Nat.reduceMod])
end
end Go.Vsi
