/- What the functions of the program, of the reference and of the law do (a part of it). -/
import Derived.Test.YtbmcobbcbepnfaaP16
import Derived.Test.YtbmcobbcbepnfaaP3
import Derived.Test.YtbmcobbcbepnfaaP6
namespace Go.Vsi
open Go.Proofs
noncomputable section
set_option maxRecDepth 100000
set_option maxHeartbeats 4000000
set_option linter.unusedSimpArgs false
set_option linter.unusedVariables false
attribute [local go_sem] List.isEmpty_nil Bool.true_or Bool.and_true Bool.and_self Bool.false_eq_true Bool.not_true Bool.not_false List.set_cons_zero List.set_cons_succ frzSt wantedA evA constW ofVal plain oneOf noUp toVal cellVal putA startA List.length_cons List.length_nil List.map_cons List.map_nil List.replicate List.cons_append List.nil_append List.getElem?_cons_succ List.getElem?_cons_zero List.getElem?_toArray List.set upd Option.bind resA resOne giveA seenOf idsAt reach renH renW renV renS renB idsW idsV idsS frzW frzV frzS List.filter_nil List.range_zero List.flatMap_nil List.flatMap_cons List.append_nil List.range List.range.loop sliceLen intV List.length_map one partA ordOf canon junkBut List.elem_cons List.elem_nil Bool.false_or Bool.or_false Bool.or_true cond_true cond_false firstReg evL opTmps footA cut callOk List.all_nil List.all_cons Op.operands Array.toList List.filterMap_cons List.filterMap_nil lendCall ownCall lendVs lendV lendS plainW plainV plainS List.zipIdx_nil hpOf Array.toList_map idsB natBle beq_self_eq_true Int.toNat_natCast Option.map_some Option.map_none ix cellsV Nat.zero_add List.any_nil List.any_cons List.take_zero List.take_succ_cons List.take_nil List.drop_succ_cons List.drop_zero List.drop_nil toD toDs List.filter_cons Nat.zero_le Nat.le_refl frzH ite_true ite_false if_true if_false stpO_some opsO_nil opsO_cons stpD_some nthD_some drawO_nil drawO_cons decTrue decFalse callA natBeq decT decF B_size B_mk B_empty B_append B_extract decide_eq_true_eq Bool.not_eq_true' decide_eq_false_iff_not Bool.and_eq_true Bool.or_eq_true boundsA sliceA B_toList Bool.and_false Bool.false_and Bool.true_and backOf List.zipIdx_cons Option.getD_some Option.getD_none Nat.sub_self fillA rowsOf toRows List.flatten_cons List.flatten_nil appendA sliceRows lendSs capPtr opO_pick opO_move opO_assign opO_extract opO_nilCheck opO_unOp opO_binOp opO_convert opO_index opO_field opO_alloc opO_box opO_build opO_buildSlice opO_makeSlice opO_load opO_store opO_fieldAddr opO_indexAddr opO_slice opO_makeFunc opO_builtin opO_fn regK_some lopK_some lopK_ite map_get endA preK_some preA_cons preA_nil thenP_some pre1 preId preRow narRow narCell outOf dropOut setO renO toO toOs toRowsO nodupB isArrS nestT appendN narOuts O.flat Int.natCast_nonneg decide_true decide_false preR_some preD_some condK_true condK_false grdO_true grdO_false grdD_true grdD_false pickO_true pickO_false if_pos if_neg eqI_self eqI_t eqI_f true_and and_true and_self not_true_eq_false not_false_eq_true Bool.not_not Go.Call.operands closedB List.all_append List.filterMap_append Array.toList_append List.flatMap_append Bool.or_self List.getElem?_nil Bool.true_beq Bool.false_beq G3 I3 S3 C3 A3 B3 Try.underlying3 Z3 I4 S4 C4 A4 B4 Try.underlying4 Z4 I22 S22 C22 A22 B22 Try.underlying22 E22 Z22 I25 S25 C25 A25 B25 Try.underlying25 Z25 I29 S29 C29 A29 B29 Try.underlying29 Z29 I30 S30 C30 A30 B30 Try.underlying30 E30 Z30 I32 S32 C32 A32 B32 Try.underlying32 Z32 I36 S36 C36 A36 B36 Try.underlying36 Z36 I40 S40 C40 A40 B40 Try.underlying40 Z40 I41 S41 C41 A41 B41 Try.underlying41 E41 Z41 I43 S43 C43 A43 B43 Try.underlying43 Z43 H4 Y4 H5 Y5 H6 Y6 H7 Y7 H8 Y8 H9 Y9 H10 Y10 R3 M3
attribute [local go_sem ↓] ite_dec popK_nil popK_seq popK_seqE popK_seqR popK_blk popK_blkR popK_blkE endF_normal endF_ret q3_ q3_0 q3_1 q3_10 q3_11 q3_110 q3_111 q3_1110 q3_11100 q3_11101 q3_111010 q3_1110100 q3_1110101 q3_111011 q3_1111 q3_11110 q3_11111 q3_111110 q3_111111 q3_1111110 q3_1111111 q3_11111110 q3_111111100 q3_111111101 q3_1111111010 q3_11111110100 q3_11111110101 q3_1111111011 q3_11111111 q3_111111110 q3_1111111100 q3_1111111101 q3_11111111010 q3_111111110100 q3_111111110101 q3_11111111011 q3_111111111 q3_1111111110 q3_1111111111 q3_11111111110 q3_11111111111 q3_111111111110 q3_1111111111100 q3_1111111111101 q3_11111111111010 q3_111111111110100 q3_111111111110101 q3_11111111111011 q3_111111111111 q3_1111111111110 q3_1111111111111 q3_11111111111110 q3_11111111111111 q3_111111111111110 q3_111111111111111 q3_1111111111111110 q3_1111111111111111 q3_11111111111111110 q3_111111111111111100 q3_111111111111111101 q3_1111111111111111010 q3_11111111111111110100 q3_11111111111111110101 q3_1111111111111111011 q3_11111111111111111 q3_111111111111111110 q3_1111111111111111100 q3_1111111111111111101 q3_11111111111111111010 q3_111111111111111110100 q3_111111111111111110101 q3_11111111111111111011 q3_111111111111111111 q3_1111111111111111110 q3_1111111111111111111 q3_11111111111111111110 q3_111111111111111111100 q3_111111111111111111101 q3_1111111111111111111010 q3_11111111111111111110100 q3_11111111111111111110101 q3_1111111111111111111011 q3_11111111111111111111 q3_111111111111111111110 q3_111111111111111111111 q3_1111111111111111111110 q3_1111111111111111111111 q3_11111111111111111111110 q3_111111111111111111111100 q3_111111111111111111111101 q3_1111111111111111111111010 q3_11111111111111111111110100 q3_11111111111111111111110101 q3_1111111111111111111111011 q3_11111111111111111111111 q3_111111111111111111111110 q3_1111111111111111111111100 q3_1111111111111111111111101 q3_11111111111111111111111010 q3_111111111111111111111110100 q3_111111111111111111111110101 q3_11111111111111111111111011 q3_111111111111111111111111 q3_1111111111111111111111110 q3_1111111111111111111111111 bin_add bin_sub bin_mul bin_lss bin_leq bin_gtr bin_geq un_not min_int max_int wrap64' wrap_u8 wrap_i32 wrap64_byte wrap8_byte wrap32_byte bin_eqB bin_neB bin_addB
theorem kBegin_ge (x : GCoord) (k : Int) (h : 0 ≤ k) : 0 ≤ kBegin x k := by
  unfold kBegin kNames kStore kCode
  omega
theorem kTasks_le (x : GCoord) (k : Int) : kTs x.Tasks (kBegin x k) ≤ kCoord x k := by
  unfold kCoord kStore kTasks
  omega
theorem kCoord_ge (x : GCoord) (k : Int) (h : 0 ≤ k) : 0 ≤ kCoord x k := Int.le_trans (kBegin_ge x k h) (Int.le_trans (kTs_ge _ _) (kTasks_le x k))
theorem kTs_le : ∀ (xs : List GTask) (k : Int), kTs xs k ≤ k + 4 * xs.length + 3 * tT xs
  | [], k => by simp [kTs, tT]
  | x :: xs, k => by
    have h := kTs_le xs (kTask x k)
    have h1 := tS_ge x.Lines
    have h2 := tV_ge x.Delta.Vars
    have h3 := tC_ge x.Delta.Cells
    rw [kTs, tT, List.length_cons]
    unfold tET tStore
    unfold kTask at h ⊢
    omega
theorem kCoord_le (x : GCoord) (k : Int) : kCoord x k ≤ k + 4 * tCoord x := by
  have h := kTs_le x.Tasks (kBegin x k)
  have h1 := tS_ge x.Code.Texts
  have h2 := tV_ge x.Begin.Vars
  have h3 := tC_ge x.Begin.Cells
  have h4 := tS_ge x.Names
  have h5 := tV_ge x.Final.Vars
  have h6 := tC_ge x.Final.Cells
  have h7 := tT_ge x.Tasks
  unfold kCoord kTasks tCoord tCode tStore kStore
  unfold kBegin kNames kCode kStore at h ⊢
  omega
theorem bT_of : ∀ (xs : List GTask), tT xs ≤ 1048576 → ∀ x ∈ xs, bTask x
  | [], _, x, hx => by cases hx
  | y :: ys, h, x, hx => by
    have h1 := tS_ge y.Lines
    have h2 := tV_ge y.Delta.Vars
    have h3 := tC_ge y.Delta.Cells
    have h4 := tT_ge ys
    unfold tT tET tStore at h
    rcases List.mem_cons.1 hx with rfl | hx
    · exact ⟨by omega, by omega, by omega⟩
    · exact bT_of ys (by omega) x hx
theorem bCoord_of (x : GCoord) (h : tCoord x ≤ 1048576) : bCoord x := by
  have h1 := tS_ge x.Code.Texts
  have h2 := tV_ge x.Begin.Vars
  have h3 := tC_ge x.Begin.Cells
  have h4 := tS_ge x.Names
  have h5 := tV_ge x.Final.Vars
  have h6 := tC_ge x.Final.Cells
  have h7 := tT_ge x.Tasks
  unfold tCoord tCode tStore at h
  exact ⟨⟨by omega, by omega⟩, by omega, ⟨by omega, by omega⟩, ⟨by omega, bT_of _ (by omega)⟩, by omega, by omega⟩

theorem law_nil (x : GCoord) (n : Int) (hx : GCoord.ok x) (ht : x.Tasks = []) (hb : bCoord x) (hm : kCoord x 1 ≤ 1000000000) (hz : ¬ (1048576 : Int) < tCoord x) : fnL Try.prog T L0 3 [.agg [.d (.sl 1 (rS x.Code.Texts)), .d (.sl 2 (rIn x.Code.List)), .d (.v (.int .i64 (x.Code.Begin))), .d (.v (.int .i64 (x.Code.Line))), .d (.v (.int .i64 (x.Code.End))), .d (.sl 1 (rS x.Names)), .d (.sl 2 (rV x.Begin.Vars)), .d (.sl 3 (rC x.Begin.Cells)), .d (.v (.string (B (x.Begin.Out)))), .d (.v (.int .i64 (x.Count))), .d (.sl 7 (rT x.Tasks)), .d (.v (.int .i64 (x.Now))), .d (.v (.int .i64 (x.Tries))), .d (.v (.bool (x.Over))), .d (.sl 2 (rV x.Final.Vars)), .d (.sl 3 (rC x.Final.Cells)), .d (.v (.string (B (x.Final.Out))))], .c (.d (.v (.int .i64 (n))))] [] = some (.one (.c (.d (.v (.bool (true))))), []) := by
  have hq := szCoord_ok x 1048576 (by omega) hx
  rw [szr_ge hz, encCoord] at hq
  have hq2 : ¬ (1048576 : Int) - tCoord x < 0 := by omega
  have h1 := toCoord_ok x hb
  rw [encCoord] at h1
  have h2 := sTickCoord_ok x n hb
  have h3 := TickCoord_nil x n hb ht
  have hy : bCoord (⟨x.Code, x.Names, x.Begin, x.Count, x.Tasks, IntKind.i64.wrap (x.Now + n % 10), x.Tries, x.Over, x.Final⟩ : GCoord) := hb
  have e0 := eqTaskS_ok x.Tasks hb.2.2.2.1
  have e1 := eqCoord_ok x hb _ _ e0
  have e2 := eqCoord_ok (⟨x.Code, x.Names, x.Begin, x.Count, x.Tasks, IntKind.i64.wrap (x.Now + n % 10), x.Tries, x.Over, x.Final⟩ : GCoord) hy _ (.sl 7 (rT x.Tasks)) (by rw [ht]; exact eqTaskS_nil)
  have m1 := markCoord_ok x 1 hb (by omega) hm
  have m2 := markCoord_nil (⟨x.Code, x.Names, x.Begin, x.Count, x.Tasks, IntKind.i64.wrap (x.Now + n % 10), x.Tries, x.Over, x.Final⟩ : GCoord) 1 ht hy (by omega) hm
  have d0 := (show fnL Try.prog T L0 32 [.c (.d (.v (.slice none 0 0))), .c (.d (.v (.int .i64 (kBegin (⟨x.Code, x.Names, x.Begin, x.Count, x.Tasks, IntKind.i64.wrap (x.Now + n % 10), x.Tries, x.Over, x.Final⟩ : GCoord) 1))))] [] = some (.one (.c (.d (.v (.int .i64 (kTasks (⟨x.Code, x.Names, x.Begin, x.Count, x.Tasks, IntKind.i64.wrap (x.Now + n % 10), x.Tries, x.Over, x.Final⟩ : GCoord) 1))))), []) from by rw [show kTasks (⟨x.Code, x.Names, x.Begin, x.Count, x.Tasks, IntKind.i64.wrap (x.Now + n % 10), x.Tries, x.Over, x.Final⟩ : GCoord) 1 = kBegin (⟨x.Code, x.Names, x.Begin, x.Count, x.Tasks, IntKind.i64.wrap (x.Now + n % 10), x.Tries, x.Over, x.Final⟩ : GCoord) 1 from by (show kTs x.Tasks _ = _; rw [ht]; rfl)]; exact heldTaskS_nil _)
  generalize ez : mCoord (⟨x.Code, x.Names, x.Begin, x.Count, x.Tasks, IntKind.i64.wrap (x.Now + n % 10), x.Tries, x.Over, x.Final⟩ : GCoord) 1 = z at m2
  have d1 := heldCoord_ok (⟨x.Code, x.Names, x.Begin, x.Count, x.Tasks, IntKind.i64.wrap (x.Now + n % 10), x.Tries, x.Over, x.Final⟩ : GCoord) z 1 _ ez.symm hy (by omega) hm d0
  have k1 : kCoord (⟨x.Code, x.Names, x.Begin, x.Count, x.Tasks, IntKind.i64.wrap (x.Now + n % 10), x.Tries, x.Over, x.Final⟩ : GCoord) 1 = kCoord x 1 := rfl
  rw [k1] at m2 d1
  have k0 : 0 ≤ kCoord x 1 := kCoord_ge x 1 (by omega)
  have z1 : (rS z.Code.Texts).take x.Code.Texts.length = rS z.Code.Texts := List.take_of_length_le (by rw [rS_len, ← ez]; simp [mCoord, mCode, mS_len])
  have z2 : (rIn z.Code.List).take x.Code.List.length = rIn z.Code.List := List.take_of_length_le (by rw [rIn_len, ← ez]; simp [mCoord, mCode, mIn_len])
  have z3 : (rS z.Names).take x.Names.length = rS z.Names := List.take_of_length_le (by rw [rS_len, ← ez]; simp [mCoord, mS_len])
  have z4 : (rV z.Begin.Vars).take x.Begin.Vars.length = rV z.Begin.Vars := List.take_of_length_le (by rw [rV_len, ← ez]; simp [mCoord, mStore, mV_len])
  have z5 : (rC z.Begin.Cells).take x.Begin.Cells.length = rC z.Begin.Cells := List.take_of_length_le (by rw [rC_len, ← ez]; simp [mCoord, mStore, mC_len])
  have z6 : (oT z.Tasks).take x.Tasks.length = oT z.Tasks := List.take_of_length_le (by rw [oT_len, ← ez]; simp [mCoord, mTs_len])
  have z7 : (rV z.Final.Vars).take x.Final.Vars.length = rV z.Final.Vars := List.take_of_length_le (by rw [rV_len, ← ez]; simp [mCoord, mStore, mV_len])
  have z8 : (rC z.Final.Cells).take x.Final.Cells.length = rC z.Final.Cells := List.take_of_length_le (by rw [rC_len, ← ez]; simp [mCoord, mStore, mC_len])
  have s1 := rS_tk x.Code.Texts
  have s2 := rIn_tk x.Code.List
  have s3 := rS_tk x.Names
  have s4 := rV_tk x.Begin.Vars
  have s5 := rC_tk x.Begin.Cells
  have s6 := oT_tk x.Tasks
  have s7 := rV_tk x.Final.Vars
  have s8 := rC_tk x.Final.Cells
  have s9 := oT_flat x.Tasks
  have z9 := oT_flat z.Tasks
  have f1 : z.Code.Begin = x.Code.Begin ∧ z.Code.Line = x.Code.Line ∧ z.Code.End = x.Code.End ∧ z.Begin.Out = x.Begin.Out ∧ z.Count = x.Count ∧ z.Now = IntKind.i64.wrap (x.Now + n % 10) ∧ z.Tries = x.Tries ∧ z.Over = x.Over ∧ z.Final.Out = x.Final.Out := by
    rw [← ez]; exact ⟨rfl, rfl, rfl, rfl, rfl, rfl, rfl, rfl, rfl⟩
  obtain ⟨f1, f2, f3, f4, f5, f6, f7, f8, f9⟩ := f1
  rw [f1, f2, f3, f4, f5, f6, f7, f8, f9] at d1
  clear hx ht hb hm hz hy e0 d0 ez f1 f2 f3 f4 f5 f6 f7 f8 f9 k1
  generalize kCoord x 1 = kk at m1 m2 d1 k0
  generalize IntKind.i64.wrap (x.Now + n % 10) = w at h2 h3 e2 m2 d1
  simp only [aCo, bCo, aCn, bCn, List.map_cons, List.map_nil] at hq h1 h2 h3 e1 e2 m1 m2 d1
  refine fnL_run rfl N3 Try.func3 U3 ?_; have o := o3; simp only [OE, opsR, cqR, subR, chi, Try.f3] at o
  (try simp (maxSteps := 4000000) (disch := first | assumption | omega) only [go_sem, *, hq, h1, h2, h3, e1, e2, m1, m2, d1, z1, z2, z3, z4, z5, z6, z7, z8, z9, s1, s2, s3, s4, s5, s6, s7, s8, s9, o, ↓bin_eqI, ↓bin_neI, Nat.reduceAdd, Nat.reduceSub, Nat.reduceMul, Nat.reduceBEq, Nat.reduceLeDiff, Nat.reduceLT, Nat.reduceDiv, Nat.reduceMod]); repeat' ((first | with_reducible first | refine caK (fun hb => ?_) fun hb => ?_ | refine caG (fun hb => ?_) fun hb => ?_ | refine caP (fun hb => ?_) fun hb => ?_ | refine caH (fun hb => ?_) fun hb => ?_ | refine caQ (fun hb => ?_) fun hb => ?_ | refine ite_cases (fun hb => ?_) fun hb => ?_ | rw [drwK_ok rfl]) <;> try simp (maxSteps := 4000000) (disch := first | assumption | omega) only [go_sem, *, hq, h1, h2, h3, e1, e2, m1, m2, d1, z1, z2, z3, z4, z5, z6, z7, z8, z9, s1, s2, s3, s4, s5, s6, s7, s8, s9, o, ↓bin_eqI, ↓bin_neI, Nat.reduceAdd, Nat.reduceSub, Nat.reduceMul, Nat.reduceBEq, Nat.reduceLeDiff, Nat.reduceLT, Nat.reduceDiv, Nat.reduceMod])

theorem law_ok (x : GCoord) (n : Int) (hx : GCoord.ok x) (ht : x.Tasks ≠ []) (hb : bCoord x) (hm : kCoord x 1 ≤ 1000000000) (hz : ¬ (1048576 : Int) < tCoord x) : fnL Try.prog T L0 3 [.agg [.d (.sl 1 (rS x.Code.Texts)), .d (.sl 2 (rIn x.Code.List)), .d (.v (.int .i64 (x.Code.Begin))), .d (.v (.int .i64 (x.Code.Line))), .d (.v (.int .i64 (x.Code.End))), .d (.sl 1 (rS x.Names)), .d (.sl 2 (rV x.Begin.Vars)), .d (.sl 3 (rC x.Begin.Cells)), .d (.v (.string (B (x.Begin.Out)))), .d (.v (.int .i64 (x.Count))), .d (.sl 7 (rT x.Tasks)), .d (.v (.int .i64 (x.Now))), .d (.v (.int .i64 (x.Tries))), .d (.v (.bool (x.Over))), .d (.sl 2 (rV x.Final.Vars)), .d (.sl 3 (rC x.Final.Cells)), .d (.v (.string (B (x.Final.Out))))], .c (.d (.v (.int .i64 (n))))] [] = some (.one (.c (.d (.v (.bool (true))))), []) := by
  have hq := szCoord_ok x 1048576 (by omega) hx
  rw [szr_ge hz, encCoord] at hq
  have hq2 : ¬ (1048576 : Int) - tCoord x < 0 := by omega
  have h1 := toCoord_ok x hb
  rw [encCoord] at h1
  have h2 := sTickCoord_ok x n hb
  have h3 := TickCoord_ok x n hb ht
  have hy : bCoord (⟨x.Code, x.Names, x.Begin, x.Count, x.Tasks, IntKind.i64.wrap (x.Now + n % 10), x.Tries, x.Over, x.Final⟩ : GCoord) := hb
  have e0 := eqTaskS_ok x.Tasks hb.2.2.2.1
  have e1 := eqCoord_ok x hb _ _ e0
  have e2 := eqCoord_ok (⟨x.Code, x.Names, x.Begin, x.Count, x.Tasks, IntKind.i64.wrap (x.Now + n % 10), x.Tries, x.Over, x.Final⟩ : GCoord) hy _ _ e0
  have m1 := markCoord_ok x 1 hb (by omega) hm
  have m2 := markCoord_ok (⟨x.Code, x.Names, x.Begin, x.Count, x.Tasks, IntKind.i64.wrap (x.Now + n % 10), x.Tries, x.Over, x.Final⟩ : GCoord) 1  hy (by omega) hm
  have d0 := heldTaskS_ok x.Tasks (kBegin (⟨x.Code, x.Names, x.Begin, x.Count, x.Tasks, IntKind.i64.wrap (x.Now + n % 10), x.Tries, x.Over, x.Final⟩ : GCoord) 1) hb.2.2.2.1 (kBegin_ge _ 1 (by omega)) (Int.le_trans (kTasks_le _ 1) hm)
  generalize ez : mCoord (⟨x.Code, x.Names, x.Begin, x.Count, x.Tasks, IntKind.i64.wrap (x.Now + n % 10), x.Tries, x.Over, x.Final⟩ : GCoord) 1 = z at m2
  have d0 : fnL Try.prog T L0 32 [.c (.d (.sl 7 (rT z.Tasks))), .c (.d (.v (.int .i64 (kBegin (⟨x.Code, x.Names, x.Begin, x.Count, x.Tasks, IntKind.i64.wrap (x.Now + n % 10), x.Tries, x.Over, x.Final⟩ : GCoord) 1))))] [] = some (.one (.c (.d (.v (.int .i64 (kTasks (⟨x.Code, x.Names, x.Begin, x.Count, x.Tasks, IntKind.i64.wrap (x.Now + n % 10), x.Tries, x.Over, x.Final⟩ : GCoord) 1))))), []) := by rw [← ez]; exact d0
  have d1 := heldCoord_ok (⟨x.Code, x.Names, x.Begin, x.Count, x.Tasks, IntKind.i64.wrap (x.Now + n % 10), x.Tries, x.Over, x.Final⟩ : GCoord) z 1 _ ez.symm hy (by omega) hm d0
  have k1 : kCoord (⟨x.Code, x.Names, x.Begin, x.Count, x.Tasks, IntKind.i64.wrap (x.Now + n % 10), x.Tries, x.Over, x.Final⟩ : GCoord) 1 = kCoord x 1 := rfl
  rw [k1] at m2 d1
  have k0 : 0 ≤ kCoord x 1 := kCoord_ge x 1 (by omega)
  have z1 : (rS z.Code.Texts).take x.Code.Texts.length = rS z.Code.Texts := List.take_of_length_le (by rw [rS_len, ← ez]; simp [mCoord, mCode, mS_len])
  have z2 : (rIn z.Code.List).take x.Code.List.length = rIn z.Code.List := List.take_of_length_le (by rw [rIn_len, ← ez]; simp [mCoord, mCode, mIn_len])
  have z3 : (rS z.Names).take x.Names.length = rS z.Names := List.take_of_length_le (by rw [rS_len, ← ez]; simp [mCoord, mS_len])
  have z4 : (rV z.Begin.Vars).take x.Begin.Vars.length = rV z.Begin.Vars := List.take_of_length_le (by rw [rV_len, ← ez]; simp [mCoord, mStore, mV_len])
  have z5 : (rC z.Begin.Cells).take x.Begin.Cells.length = rC z.Begin.Cells := List.take_of_length_le (by rw [rC_len, ← ez]; simp [mCoord, mStore, mC_len])
  have z6 : (oT z.Tasks).take x.Tasks.length = oT z.Tasks := List.take_of_length_le (by rw [oT_len, ← ez]; simp [mCoord, mTs_len])
  have z7 : (rV z.Final.Vars).take x.Final.Vars.length = rV z.Final.Vars := List.take_of_length_le (by rw [rV_len, ← ez]; simp [mCoord, mStore, mV_len])
  have z8 : (rC z.Final.Cells).take x.Final.Cells.length = rC z.Final.Cells := List.take_of_length_le (by rw [rC_len, ← ez]; simp [mCoord, mStore, mC_len])
  have s1 := rS_tk x.Code.Texts
  have s2 := rIn_tk x.Code.List
  have s3 := rS_tk x.Names
  have s4 := rV_tk x.Begin.Vars
  have s5 := rC_tk x.Begin.Cells
  have s6 := oT_tk x.Tasks
  have s7 := rV_tk x.Final.Vars
  have s8 := rC_tk x.Final.Cells
  have s9 := oT_flat x.Tasks
  have z9 := oT_flat z.Tasks
  have f1 : z.Code.Begin = x.Code.Begin ∧ z.Code.Line = x.Code.Line ∧ z.Code.End = x.Code.End ∧ z.Begin.Out = x.Begin.Out ∧ z.Count = x.Count ∧ z.Now = IntKind.i64.wrap (x.Now + n % 10) ∧ z.Tries = x.Tries ∧ z.Over = x.Over ∧ z.Final.Out = x.Final.Out := by
    rw [← ez]; exact ⟨rfl, rfl, rfl, rfl, rfl, rfl, rfl, rfl, rfl⟩
  obtain ⟨f1, f2, f3, f4, f5, f6, f7, f8, f9⟩ := f1
  rw [f1, f2, f3, f4, f5, f6, f7, f8, f9] at d1
  clear hx ht hb hm hz hy e0 d0 ez f1 f2 f3 f4 f5 f6 f7 f8 f9 k1
  generalize kCoord x 1 = kk at m1 m2 d1 k0
  generalize IntKind.i64.wrap (x.Now + n % 10) = w at h2 h3 e2 m2 d1
  simp only [aCo, bCo, aCn, bCn, List.map_cons, List.map_nil] at hq h1 h2 h3 e1 e2 m1 m2 d1
  refine fnL_run rfl N3 Try.func3 U3 ?_; have o := o3; simp only [OE, opsR, cqR, subR, chi, Try.f3] at o
  (try simp (maxSteps := 4000000) (disch := first | assumption | omega) only [go_sem, *, hq, h1, h2, h3, e1, e2, m1, m2, d1, z1, z2, z3, z4, z5, z6, z7, z8, z9, s1, s2, s3, s4, s5, s6, s7, s8, s9, o, ↓bin_eqI, ↓bin_neI, Nat.reduceAdd, Nat.reduceSub, Nat.reduceMul, Nat.reduceBEq, Nat.reduceLeDiff, Nat.reduceLT, Nat.reduceDiv, Nat.reduceMod]); repeat' ((first | with_reducible first | refine caK (fun hb => ?_) fun hb => ?_ | refine caG (fun hb => ?_) fun hb => ?_ | refine caP (fun hb => ?_) fun hb => ?_ | refine caH (fun hb => ?_) fun hb => ?_ | refine caQ (fun hb => ?_) fun hb => ?_ | refine ite_cases (fun hb => ?_) fun hb => ?_ | rw [drwK_ok rfl]) <;> try simp (maxSteps := 4000000) (disch := first | assumption | omega) only [go_sem, *, hq, h1, h2, h3, e1, e2, m1, m2, d1, z1, z2, z3, z4, z5, z6, z7, z8, z9, s1, s2, s3, s4, s5, s6, s7, s8, s9, o, ↓bin_eqI, ↓bin_neI, Nat.reduceAdd, Nat.reduceSub, Nat.reduceMul, Nat.reduceBEq, Nat.reduceLeDiff, Nat.reduceLT, Nat.reduceDiv, Nat.reduceMod])

theorem law_big (x : GCoord) (n : Int) (hx : GCoord.ok x) (hz : (1048576 : Int) < tCoord x) : fnL Try.prog T L0 3 [.agg [.d (.sl 1 (rS x.Code.Texts)), .d (.sl 2 (rIn x.Code.List)), .d (.v (.int .i64 (x.Code.Begin))), .d (.v (.int .i64 (x.Code.Line))), .d (.v (.int .i64 (x.Code.End))), .d (.sl 1 (rS x.Names)), .d (.sl 2 (rV x.Begin.Vars)), .d (.sl 3 (rC x.Begin.Cells)), .d (.v (.string (B (x.Begin.Out)))), .d (.v (.int .i64 (x.Count))), .d (.sl 7 (rT x.Tasks)), .d (.v (.int .i64 (x.Now))), .d (.v (.int .i64 (x.Tries))), .d (.v (.bool (x.Over))), .d (.sl 2 (rV x.Final.Vars)), .d (.sl 3 (rC x.Final.Cells)), .d (.v (.string (B (x.Final.Out))))], .c (.d (.v (.int .i64 (n))))] [] = some (.one (.c (.d (.v (.bool (true))))), []) := by
  have hq := szCoord_ok x 1048576 (by omega) hx
  rw [szr_lt hz, encCoord] at hq
  simp only [List.map_cons, List.map_nil] at hq
  clear hx hz
  refine fnL_run rfl N3 Try.func3 U3 ?_; have o := o3; simp only [OE, opsR, cqR, subR, chi, Try.f3] at o
  (try simp (maxSteps := 4000000) (disch := first | assumption | omega) only [go_sem, *, hq, o, ↓bin_eqI, ↓bin_neI, Nat.reduceAdd, Nat.reduceSub, Nat.reduceMul, Nat.reduceBEq, Nat.reduceLeDiff, Nat.reduceLT, Nat.reduceDiv, Nat.reduceMod]); repeat' ((first | with_reducible first | refine caK (fun hb => ?_) fun hb => ?_ | refine caG (fun hb => ?_) fun hb => ?_ | refine caP (fun hb => ?_) fun hb => ?_ | refine caH (fun hb => ?_) fun hb => ?_ | refine caQ (fun hb => ?_) fun hb => ?_ | refine ite_cases (fun hb => ?_) fun hb => ?_ | rw [drwK_ok rfl]) <;> try simp (maxSteps := 4000000) (disch := first | assumption | omega) only [go_sem, *, hq, o, ↓bin_eqI, ↓bin_neI, Nat.reduceAdd, Nat.reduceSub, Nat.reduceMul, Nat.reduceBEq, Nat.reduceLeDiff, Nat.reduceLT, Nat.reduceDiv, Nat.reduceMod])
theorem law_all (x : GCoord) (n : Int) (hx : GCoord.ok x) : fnL Try.prog T L0 3 [.agg (x.enc.map .d), .c (.d (.v (.int .i64 (n))))] [] = some (.one (.c (.d (.v (.bool (true))))), []) := by
  rw [encCoord]
  by_cases hz : (1048576 : Int) < tCoord x
  · exact law_big x n hx hz
  · have hm := kCoord_le x 1
    by_cases ht : x.Tasks = []
    · exact law_nil x n hx ht (bCoord_of x (by omega)) (by omega) hz
    · exact law_ok x n hx ht (bCoord_of x (by omega)) (by omega) hz
end
end Go.Vsi
