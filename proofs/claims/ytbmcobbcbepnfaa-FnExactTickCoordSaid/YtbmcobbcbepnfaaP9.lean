/- What the functions of the program, of the reference and of the law do (a part of it). -/
import Derived.Test.YtbmcobbcbepnfaaP8
namespace Go.Vsi
open Go.Proofs
noncomputable section
set_option maxRecDepth 100000
set_option maxHeartbeats 4000000
set_option linter.unusedSimpArgs false
set_option linter.unusedVariables false
attribute [local go_sem] List.isEmpty_nil Bool.true_or Bool.and_true Bool.and_self Bool.false_eq_true Bool.not_true Bool.not_false List.set_cons_zero List.set_cons_succ frzSt wantedA evA constW ofVal plain oneOf noUp toVal cellVal putA startA List.length_cons List.length_nil List.map_cons List.map_nil List.replicate List.cons_append List.nil_append List.getElem?_cons_succ List.getElem?_cons_zero List.getElem?_toArray List.set upd Option.bind resA resOne giveA seenOf idsAt reach renH renW renV renS renB idsW idsV idsS frzW frzV frzS List.filter_nil List.range_zero List.flatMap_nil List.flatMap_cons List.append_nil List.range List.range.loop sliceLen intV List.length_map one partA ordOf canon junkBut List.elem_cons List.elem_nil Bool.false_or Bool.or_false Bool.or_true cond_true cond_false firstReg evL opTmps footA cut callOk List.all_nil List.all_cons Op.operands Array.toList List.filterMap_cons List.filterMap_nil lendCall ownCall lendVs lendV lendS plainW plainV plainS List.zipIdx_nil hpOf Array.toList_map idsB natBle beq_self_eq_true Int.toNat_natCast Option.map_some Option.map_none ix cellsV Nat.zero_add List.any_nil List.any_cons List.take_zero List.take_succ_cons List.take_nil List.drop_succ_cons List.drop_zero List.drop_nil toD toDs List.filter_cons Nat.zero_le Nat.le_refl frzH ite_true ite_false if_true if_false stpO_some opsO_nil opsO_cons stpD_some nthD_some drawO_nil drawO_cons decTrue decFalse callA natBeq decT decF B_size B_mk B_empty B_append B_extract decide_eq_true_eq Bool.not_eq_true' decide_eq_false_iff_not Bool.and_eq_true Bool.or_eq_true boundsA sliceA B_toList Bool.and_false Bool.false_and Bool.true_and backOf List.zipIdx_cons Option.getD_some Option.getD_none Nat.sub_self fillA rowsOf toRows List.flatten_cons List.flatten_nil appendA sliceRows lendSs capPtr opO_pick opO_move opO_assign opO_extract opO_nilCheck opO_unOp opO_binOp opO_convert opO_index opO_field opO_alloc opO_box opO_build opO_buildSlice opO_makeSlice opO_load opO_store opO_fieldAddr opO_indexAddr opO_slice opO_makeFunc opO_builtin opO_fn regK_some lopK_some lopK_ite map_get endA preK_some preA_cons preA_nil thenP_some pre1 preId preRow narRow narCell outOf dropOut setO renO toO toOs toRowsO nodupB isArrS nestT appendN narOuts O.flat Int.natCast_nonneg decide_true decide_false preR_some preD_some condK_true condK_false grdO_true grdO_false grdD_true grdD_false pickO_true pickO_false if_pos if_neg eqI_self eqI_t eqI_f true_and and_true and_self not_true_eq_false not_false_eq_true Bool.not_not Go.Call.operands closedB List.all_append List.filterMap_append Array.toList_append List.flatMap_append Bool.or_self List.getElem?_nil Bool.true_beq Bool.false_beq G9 I3 S3 C3 A3 B3 Try.underlying3 Z3 I4 S4 C4 A4 B4 Try.underlying4 Z4 I9 S9 C9 A9 B9 Try.underlying9 Z9 I22 S22 C22 A22 B22 Try.underlying22 E22 Z22 I34 S34 C34 A34 B34 Try.underlying34 E34 Z34 I36 S36 C36 A36 B36 Try.underlying36 Z36 I37 S37 C37 A37 B37 Try.underlying37 E37 Z37 I38 S38 C38 A38 B38 Try.underlying38 E38 Z38 I40 S40 C40 A40 B40 Try.underlying40 Z40 I41 S41 C41 A41 B41 Try.underlying41 E41 Z41 I43 S43 C43 A43 B43 Try.underlying43 Z43 I73 S73 C73 A73 B73 Try.underlying73 Z73 H25 Y25 H26 Y26 H27 Y27 H28 Y28 R9 M9
attribute [local go_sem ↓] ite_dec popK_nil popK_seq popK_seqE popK_seqR popK_blk popK_blkR popK_blkE endF_normal endF_ret q9_ q9_0 q9_1 q9_10 q9_11 q9_110 q9_111 q9_1110 q9_1111 q9_11110 q9_11111 q9_111110 q9_111111 q9_1111110 q9_1111111 bin_add bin_sub bin_mul bin_lss bin_leq bin_gtr bin_geq un_not min_int max_int wrap64' wrap_u8 wrap_i32 wrap64_byte wrap8_byte wrap32_byte bin_eqB bin_neB bin_addB
def kStore (x : GStore) (k : Int) : Int := k + 2 * (x.Vars.length : Int) + 3 * (x.Cells.length : Int)
def kCode (x : GCode) (k : Int) : Int := k + (x.Texts.length : Int) + 2 * (x.List.length : Int)
def kNames (x : GCoord) (k : Int) : Int := kCode x.Code k + (x.Names.length : Int)
def kBegin (x : GCoord) (k : Int) : Int := kStore x.Begin (kNames x k)
def kTasks (x : GCoord) (k : Int) : Int := kTs x.Tasks (kBegin x k)
def kCoord (x : GCoord) (k : Int) : Int := kStore x.Final (kTasks x k)
def mCoord (x : GCoord) (k : Int) : GCoord := ⟨mCode x.Code k, mS x.Names.length (kCode x.Code k), mStore x.Begin (kNames x k), x.Count, mTs x.Tasks (kBegin x k), x.Now, x.Tries, x.Over, mStore x.Final (kTasks x k)⟩
def aCo (x : GCoord) : List S := [.arr 0 0 x.Code.Texts.length, .arr 1 0 x.Code.List.length, .d (.v (.int .i64 (x.Code.Begin))), .d (.v (.int .i64 (x.Code.Line))), .d (.v (.int .i64 (x.Code.End))), .arr 2 0 x.Names.length, .arr 3 0 x.Begin.Vars.length, .arr 4 0 x.Begin.Cells.length, .d (.v (.string (B (x.Begin.Out)))), .d (.v (.int .i64 (x.Count))), .arr 5 0 x.Tasks.length, .d (.v (.int .i64 (x.Now))), .d (.v (.int .i64 (x.Tries))), .d (.v (.bool (x.Over))), .arr 6 0 x.Final.Vars.length, .arr 7 0 x.Final.Cells.length, .d (.v (.string (B (x.Final.Out))))]
def bCo (x : GCoord) : List (Option Blk) := [some (.arr 1 (rS x.Code.Texts)), some (.arr 2 (rIn x.Code.List)), some (.arr 1 (rS x.Names)), some (.arr 2 (rV x.Begin.Vars)), some (.arr 3 (rC x.Begin.Cells)), some (.nar 7 (oT x.Tasks) []), some (.arr 2 (rV x.Final.Vars)), some (.arr 3 (rC x.Final.Cells))]
def aCn (x : GCoord) : List S := [.arr 0 0 x.Code.Texts.length, .arr 1 0 x.Code.List.length, .d (.v (.int .i64 (x.Code.Begin))), .d (.v (.int .i64 (x.Code.Line))), .d (.v (.int .i64 (x.Code.End))), .arr 2 0 x.Names.length, .arr 3 0 x.Begin.Vars.length, .arr 4 0 x.Begin.Cells.length, .d (.v (.string (B (x.Begin.Out)))), .d (.v (.int .i64 (x.Count))), .d (.v (.slice none 0 0)), .d (.v (.int .i64 (x.Now))), .d (.v (.int .i64 (x.Tries))), .d (.v (.bool (x.Over))), .arr 5 0 x.Final.Vars.length, .arr 6 0 x.Final.Cells.length, .d (.v (.string (B (x.Final.Out))))]
def bCn (x : GCoord) : List (Option Blk) := [some (.arr 1 (rS x.Code.Texts)), some (.arr 2 (rIn x.Code.List)), some (.arr 1 (rS x.Names)), some (.arr 2 (rV x.Begin.Vars)), some (.arr 3 (rC x.Begin.Cells)), some (.arr 2 (rV x.Final.Vars)), some (.arr 3 (rC x.Final.Cells))]

theorem markCoord_ok (x : GCoord) (k : Int) (hx : bCoord x) (hk : 0 ≤ k) (hb : kCoord x k ≤ 1000000000) : fnL Try.prog T L0 9 [.agg (aCo x), .c (.d (.v (.int .i64 (k))))] (bCo x) = some (.one (.c (.d (.v (.int .i64 (kCoord x k))))), bCo (mCoord x k)) := by
  obtain ⟨b1, b2, b3, b4, b5⟩ := hx
  have g4 := kTs_ge x.Tasks (kBegin x k)
  unfold kCoord mCoord
  unfold kCoord at hb
  unfold kTasks at hb ⊢
  simp only [kBegin, kNames, kStore] at hb g4 ⊢
  generalize e4 : kTs x.Tasks (kCode x.Code k + (x.Names.length : Int) + 2 * (x.Begin.Vars.length : Int) + 3 * (x.Begin.Cells.length : Int)) = k4 at hb g4 ⊢
  have hc : kCode x.Code k = k + (x.Code.Texts.length : Int) + 2 * (x.Code.List.length : Int) := rfl
  have h1 := markCode_ok x.Code k b1 hk (by omega)
  rw [← hc] at h1
  have h2 := markStringS_ok x.Names (kCode x.Code k) b2 (by omega) (by omega)
  generalize kCode x.Code k = k1 at e4 hb g4 hc h1 h2 ⊢
  have h3 := markStore_ok x.Begin (k1 + (x.Names.length : Int)) b3 (by omega) (by omega)
  generalize e3 : k1 + (x.Names.length : Int) + 2 * (x.Begin.Vars.length : Int) + 3 * (x.Begin.Cells.length : Int) = k3 at e4 g4 h3 hb ⊢
  have h4 := markTaskS_ok x.Tasks k3 b4 (by omega) (by omega)
  rw [e4] at h4
  have h5 := markStore_ok x.Final k4 b5 (by omega) (by omega)
  clear b1 b2 b3 b4 b5 hc e3 e4
  simp only [mCode, mStore, aCo, bCo]
  refine fnL_run rfl N9 Try.func9 U9 ?_; have o := o9; simp only [OE, opsR, cqR, subR, chi, Try.f9] at o
  (try simp (maxSteps := 4000000) (disch := first | assumption | omega) only [go_sem, *, h1, h2, h3, h4, h5, o, ↓bin_eqI, ↓bin_neI, Nat.reduceAdd, Nat.reduceSub, Nat.reduceMul, Nat.reduceBEq, Nat.reduceLeDiff, Nat.reduceLT, Nat.reduceDiv, Nat.reduceMod]); repeat' ((first | with_reducible first | refine caK (fun hb => ?_) fun hb => ?_ | refine caG (fun hb => ?_) fun hb => ?_ | refine caP (fun hb => ?_) fun hb => ?_ | refine caH (fun hb => ?_) fun hb => ?_ | refine caQ (fun hb => ?_) fun hb => ?_ | refine ite_cases (fun hb => ?_) fun hb => ?_ | rw [drwK_ok rfl]) <;> try simp (maxSteps := 4000000) (disch := first | assumption | omega) only [go_sem, *, h1, h2, h3, h4, h5, o, ↓bin_eqI, ↓bin_neI, Nat.reduceAdd, Nat.reduceSub, Nat.reduceMul, Nat.reduceBEq, Nat.reduceLeDiff, Nat.reduceLT, Nat.reduceDiv, Nat.reduceMod])

theorem markCoord_nil (x : GCoord) (k : Int) (ht : x.Tasks = []) (hx : bCoord x) (hk : 0 ≤ k) (hb : kCoord x k ≤ 1000000000) : fnL Try.prog T L0 9 [.agg (aCn x), .c (.d (.v (.int .i64 (k))))] (bCn x) = some (.one (.c (.d (.v (.int .i64 (kCoord x k))))), bCn (mCoord x k)) := by
  obtain ⟨b1, b2, b3, b4, b5⟩ := hx
  have g4 := kTs_ge x.Tasks (kBegin x k)
  unfold kCoord mCoord
  unfold kCoord at hb
  unfold kTasks at hb ⊢
  simp only [kBegin, kNames, kStore] at hb g4 ⊢
  generalize e4 : kTs x.Tasks (kCode x.Code k + (x.Names.length : Int) + 2 * (x.Begin.Vars.length : Int) + 3 * (x.Begin.Cells.length : Int)) = k4 at hb g4 ⊢
  have hc : kCode x.Code k = k + (x.Code.Texts.length : Int) + 2 * (x.Code.List.length : Int) := rfl
  have h1 := markCode_ok x.Code k b1 hk (by omega)
  rw [← hc] at h1
  have h2 := markStringS_ok x.Names (kCode x.Code k) b2 (by omega) (by omega)
  generalize kCode x.Code k = k1 at e4 hb g4 hc h1 h2 ⊢
  have h3 := markStore_ok x.Begin (k1 + (x.Names.length : Int)) b3 (by omega) (by omega)
  generalize e3 : k1 + (x.Names.length : Int) + 2 * (x.Begin.Vars.length : Int) + 3 * (x.Begin.Cells.length : Int) = k3 at e4 g4 h3 hb ⊢
  have h4 := markTaskS_nil k3
  rw [ht, kTs] at e4
  subst e4
  have h5 := markStore_ok x.Final k3 b5 (by omega) (by omega)
  clear b1 b2 b3 b4 b5 hc e3 ht
  simp only [mCode, mStore, aCn, bCn]
  refine fnL_run rfl N9 Try.func9 U9 ?_; have o := o9; simp only [OE, opsR, cqR, subR, chi, Try.f9] at o
  (try simp (maxSteps := 4000000) (disch := first | assumption | omega) only [go_sem, *, h1, h2, h3, h4, h5, o, ↓bin_eqI, ↓bin_neI, Nat.reduceAdd, Nat.reduceSub, Nat.reduceMul, Nat.reduceBEq, Nat.reduceLeDiff, Nat.reduceLT, Nat.reduceDiv, Nat.reduceMod]); repeat' ((first | with_reducible first | refine caK (fun hb => ?_) fun hb => ?_ | refine caG (fun hb => ?_) fun hb => ?_ | refine caP (fun hb => ?_) fun hb => ?_ | refine caH (fun hb => ?_) fun hb => ?_ | refine caQ (fun hb => ?_) fun hb => ?_ | refine ite_cases (fun hb => ?_) fun hb => ?_ | rw [drwK_ok rfl]) <;> try simp (maxSteps := 4000000) (disch := first | assumption | omega) only [go_sem, *, h1, h2, h3, h4, h5, o, ↓bin_eqI, ↓bin_neI, Nat.reduceAdd, Nat.reduceSub, Nat.reduceMul, Nat.reduceBEq, Nat.reduceLeDiff, Nat.reduceLT, Nat.reduceDiv, Nat.reduceMod])
end
end Go.Vsi
