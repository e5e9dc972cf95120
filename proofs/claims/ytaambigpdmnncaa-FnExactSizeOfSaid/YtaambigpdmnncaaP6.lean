/- What the functions of the program, of the reference and of the law do (a part of it). -/
import Derived.Test.YtaambigpdmnncaaP2
namespace Go.Vsi
open Go.Proofs
noncomputable section
set_option maxRecDepth 100000
set_option maxHeartbeats 4000000
set_option linter.unusedSimpArgs false
set_option linter.unusedVariables false
attribute [local go_sem] List.isEmpty_nil Bool.true_or Bool.and_true Bool.and_self Bool.false_eq_true Bool.not_true Bool.not_false List.set_cons_zero List.set_cons_succ frzSt wantedA evA constW ofVal plain oneOf noUp toVal cellVal putA startA List.length_cons List.length_nil List.map_cons List.map_nil List.replicate List.cons_append List.nil_append List.getElem?_cons_succ List.getElem?_cons_zero List.getElem?_toArray List.set upd Option.bind resA resOne giveA seenOf idsAt reach renH renW renV renS renB idsW idsV idsS frzW frzV frzS List.filter_nil List.range_zero List.flatMap_nil List.flatMap_cons List.append_nil List.range List.range.loop sliceLen intV List.length_map one partA ordOf canon junkBut List.elem_cons List.elem_nil Bool.false_or Bool.or_false Bool.or_true cond_true cond_false firstReg evL opTmps footA cut callOk List.all_nil List.all_cons Op.operands Array.toList List.filterMap_cons List.filterMap_nil lendCall ownCall lendVs lendV lendS plainW plainV plainS List.zipIdx_nil hpOf Array.toList_map idsB natBle beq_self_eq_true Int.toNat_natCast Option.map_some Option.map_none ix cellsV Nat.zero_add List.any_nil List.any_cons List.take_zero List.take_succ_cons List.take_nil List.drop_succ_cons List.drop_zero List.drop_nil toD toDs List.filter_cons Nat.zero_le Nat.le_refl frzH ite_true ite_false if_true if_false stpO_some opsO_nil opsO_cons stpD_some nthD_some drawO_nil drawO_cons decTrue decFalse callA natBeq decT decF B_size B_mk B_empty B_append B_extract decide_eq_true_eq Bool.not_eq_true' decide_eq_false_iff_not Bool.and_eq_true Bool.or_eq_true boundsA sliceA B_toList Bool.and_false Bool.false_and Bool.true_and backOf List.zipIdx_cons Option.getD_some Option.getD_none Nat.sub_self fillA rowsOf toRows List.flatten_cons List.flatten_nil appendA sliceRows lendSs capPtr opO_pick opO_move opO_assign opO_extract opO_nilCheck opO_unOp opO_binOp opO_convert opO_index opO_field opO_alloc opO_box opO_build opO_buildSlice opO_makeSlice opO_load opO_store opO_fieldAddr opO_indexAddr opO_slice opO_makeFunc opO_builtin opO_fn regK_some lopK_some lopK_ite map_get endA condK_true condK_false grdO_true grdO_false grdD_true grdD_false pickO_true pickO_false if_pos if_neg eqI_self eqI_t eqI_f true_and and_true and_self not_true_eq_false not_false_eq_true Bool.not_not Go.Call.operands closedB List.all_append List.filterMap_append Array.toList_append List.flatMap_append Bool.or_self List.getElem?_nil Bool.true_beq Bool.false_beq G73 I3 S3 C3 A3 B3 Try.underlying3 Z3 I47 S47 C47 A47 B47 Try.underlying47 E47 Z47 R73 M73 G71 I4 S4 C4 A4 B4 Try.underlying4 Z4 I5 S5 C5 A5 B5 Try.underlying5 Z5 I9 S9 C9 A9 B9 Try.underlying9 Z9 I73 S73 C73 A73 B73 Try.underlying73 Z73 I82 S82 C82 A82 B82 Try.underlying82 Z82 R71 M71 G60 I80 S80 C80 A80 B80 Try.underlying80 Z80 H71 Y71 R60 M60 G61 I71 S71 C71 A71 B71 Try.underlying71 E71 Z71 I92 S92 C92 A92 B92 Try.underlying92 Z92 H73 Y73 R61 M61 G74 H80 Y80 R74 M74 G90 K90_15 O90_15 H76 Y76 H91 Y91 R90 M90 G89 H90 Y90 R89 M89 G88 H89 Y89 R88 M88 G84 H60 Y60 H61 Y61 H74 Y74 R84 M84
attribute [local go_sem ↓] ite_dec popK_nil popK_seq popK_seqE popK_seqR popK_blk popK_blkR popK_blkE endF_normal endF_ret q73_ q73_0 q73_1 q73_10 q73_11 q71_ q71_0 q71_1 q71_10 q71_11 q60_ q60_0 q60_1 q60_10 q60_11 q60_110 q60_1100 q60_1101 q60_11010 q60_11011 q60_111 q60_1110 q60_1111 q61_ q61_0 q61_1 q61_10 q61_11 q61_110 q61_111 q74_ q74_0 q74_1 q74_10 q74_11 q90_ q90_0 q90_1 q90_10 q90_11 q90_110 q90_1100 q90_11000 q90_11001 q90_110010 q90_1100100 q90_1100101 q90_110011 q90_1100110 q90_1100111 q90_11001110 q90_110011100 q90_110011101 q90_11001111 q90_110011110 q90_110011111 q90_1100111110 q90_11001111100 q90_11001111101 q90_1100111111 q90_11001111110 q90_11001111111 q90_110011111110 q90_1100111111100 q90_1100111111101 q90_110011111111 q90_111 q90_1110 q90_1111 q90_11110 q90_11111 q90_111110 q90_111111 q90_1111110 q90_1111111 q90_11111110 q90_11111111 q90_111111110 q90_1111111100 q90_11111111000 q90_111111110000 q90_1111111100000 q90_1111111100001 q90_11111111000010 q90_11111111000011 q90_111111110001 q90_1111111100010 q90_11111111000100 q90_111111110001000 q90_111111110001001 q90_1111111100010010 q90_11111111000100100 q90_11111111000100101 q90_111111110001001010 q90_1111111100010010100 q90_1111111100010010101 q90_11111111000100101010 q90_111111110001001010100 q90_111111110001001010101 q90_11111111000100101011 q90_111111110001001011 q90_1111111100010011 q90_11111111000101 q90_111111110001010 q90_1111111100010100 q90_1111111100010101 q90_11111111000101010 q90_111111110001010100 q90_111111110001010101 q90_11111111000101011 q90_111111110001011 q90_1111111100010110 q90_1111111100010111 q90_11111111000101110 q90_11111111000101111 q90_111111110001011110 q90_111111110001011111 q90_1111111100010111110 q90_11111111000101111100 q90_11111111000101111101 q90_111111110001011111010 q90_1111111100010111110100 q90_1111111100010111110101 q90_11111111000101111101010 q90_111111110001011111010100 q90_111111110001011111010101 q90_11111111000101111101011 q90_111111110001011111011 q90_1111111100010111110110 q90_1111111100010111110111 q90_1111111100010111111 q90_11111111000101111110 q90_11111111000101111111 q90_111111110001011111110 q90_1111111100010111111100 q90_1111111100010111111101 q90_11111111000101111111010 q90_111111110001011111110100 q90_111111110001011111110101 q90_1111111100010111111101010 q90_11111111000101111111010100 q90_11111111000101111111010101 q90_1111111100010111111101011 q90_11111111000101111111011 q90_111111110001011111110110 q90_111111110001011111110111 q90_111111110001011111111 q90_111111111 q90_1111111110 q90_1111111111 q89_ q89_0 q89_1 q89_10 q89_100 q89_101 q89_1010 q89_1011 q89_10110 q89_101100 q89_101101 q89_10111 q89_11 q89_110 q89_111 q88_ q88_0 q88_1 q88_10 q88_11 q84_ q84_0 q84_1 q84_10 q84_11 q84_110 q84_1100 q84_1101 q84_11010 q84_110100 q84_110101 q84_1101010 q84_1101011 q84_11011 q84_111 q84_1110 q84_1111 q84_11110 q84_11111 q84_111110 q84_111111 bin_add bin_sub bin_mul bin_lss bin_leq bin_gtr bin_geq un_not min_int max_int wrap64' wrap_u8 wrap_i32 wrap64_byte wrap8_byte wrap32_byte bin_eqB bin_neB bin_addB IX9 LN9 BE4 BN4
/-! impl's reader of patterns: its small functions -/
theorem drwK_ok {P : Program} {T : Tab} {call : Call} {f : FuncId} {α : Type} {F : Ex → St → Option α} {ks : List Kt} {ops : List Oper} {ord : List Nat} {n next io : Nat} {tm tm' : List W} {h h' : Hp} {rs : List Rec} (hp : pairsOk ops ord rs = true) : drwK P T call f F ops ord n ⟨tm', h', next, io⟩ ks (some (tm, h, rs)) = popK P T call f F ks .normal ⟨tm, h, next + n * 64, io⟩ := by
  rw [drwK_some, hp]
theorem arr_all {α : Type} (l : List α) (p : α → Bool) : (l.toArray).all p = l.all p := by simp
def rP (ps : List GPiece) : List (List D) := ps.map GPiece.enc
theorem rP_len (ps : List GPiece) : (rP ps).length = ps.length := by simp [rP]
theorem rP_snoc (ps : List GPiece) (x : GPiece) : rP ps ++ [x.enc] = rP (ps ++ [x]) := by simp [rP]
/-- The reader's blocks: what is left of the text, whether it is bad, the pieces so far (as rows). -/
def hP (l : List UInt8) (bad : Bool) : List (List D) → List (Option Blk)
  | [] => [some (.var [.d (.v (.string (B (l)))), .d (.v (.slice none 0 0)), .d (.v (.bool (bad)))])]
  | p :: ps => [some (.var [.d (.v (.string (B (l)))), .arr 1 0 (ps.length + 1), .d (.v (.bool (bad)))]), some (.arr 3 (p :: ps))]
/-- Its blocks behind a call that put pieces. -/
def hQ (R0 : List (List D)) (l : List UInt8) (bad : Bool) (R : List (List D)) : List (Option Blk) :=
  match R0 with
  | [] => [some (.var [.d (.v (.string (B (l)))), .arr 1 0 R.length, .d (.v (.bool (bad)))]), some (.arr 3 R)]
  | _ :: _ => [some (.var [.d (.v (.string (B (l)))), .arr 2 0 R.length, .d (.v (.bool (bad)))]), none, some (.arr 3 R)]
theorem copyInts_sl (xs : List Int) (h : xs.length ≤ 4) : fnL Try.prog T L0 73 [.c (.d (.sl 1 (rI xs)))] [] = some (.one (.c (.d (.sl 1 (rI xs)))), []) := by
  have hroom : room = 70368744177664 := rfl
  have hl : (rI xs).length = xs.length := by simp [rI]
  have ha : ((rI xs).all fun r => r.length == 1) = true := by simp [rI]
  have ht : (rI xs).take xs.length = rI xs := List.take_of_length_le (by omega)
  refine fnL_run rfl N73 Try.func73 U73 ?_; have o := o73; simp only [OE, opsR, cqR, subR, chi, Try.f73] at o
  (try simp (maxSteps := 4000000) (disch := first | assumption | omega) only [go_sem, *, hl, ha, ht, o, pairsOk, ↓bin_eql, ↓bin_neq, Nat.reduceAdd, Nat.reduceSub, Nat.reduceMul, Nat.reduceBEq, Nat.reduceLeDiff, Nat.reduceLT, Nat.reduceDiv, Nat.reduceMod, drwK_some, disj, ordered, ancs]); repeat' ((first | with_reducible first | refine caK (fun hb => ?_) fun hb => ?_ | refine caG (fun hb => ?_) fun hb => ?_ | refine caP (fun hb => ?_) fun hb => ?_ | refine caH (fun hb => ?_) fun hb => ?_ | refine caQ (fun hb => ?_) fun hb => ?_ | refine ite_cases (fun hb => ?_) fun hb => ?_) <;> try simp (maxSteps := 4000000) (disch := first | assumption | omega) only [go_sem, *, hl, ha, ht, o, pairsOk, ↓bin_eql, ↓bin_neq, Nat.reduceAdd, Nat.reduceSub, Nat.reduceMul, Nat.reduceBEq, Nat.reduceLeDiff, Nat.reduceLT, Nat.reduceDiv, Nat.reduceMod, drwK_some, disj, ordered, ancs])
theorem copyInts_nil : fnL Try.prog T L0 73 [.c (.d (.v (.slice none 0 0)))] [] = some (.one (.c (.d (.sl 1 ([])))), []) := by
  refine fnL_run rfl N73 Try.func73 U73 ?_; have o := o73; simp only [OE, opsR, cqR, subR, chi, Try.f73] at o
  (try simp (maxSteps := 4000000) (disch := first | assumption | omega) only [go_sem, *, o, pairsOk, ↓bin_eql, ↓bin_neq, Nat.reduceAdd, Nat.reduceSub, Nat.reduceMul, Nat.reduceBEq, Nat.reduceLeDiff, Nat.reduceLT, Nat.reduceDiv, Nat.reduceMod, drwK_some, disj, ordered, ancs]); repeat' ((first | with_reducible first | refine caK (fun hb => ?_) fun hb => ?_ | refine caG (fun hb => ?_) fun hb => ?_ | refine caP (fun hb => ?_) fun hb => ?_ | refine caH (fun hb => ?_) fun hb => ?_ | refine caQ (fun hb => ?_) fun hb => ?_ | refine ite_cases (fun hb => ?_) fun hb => ?_) <;> try simp (maxSteps := 4000000) (disch := first | assumption | omega) only [go_sem, *, o, pairsOk, ↓bin_eql, ↓bin_neq, Nat.reduceAdd, Nat.reduceSub, Nat.reduceMul, Nat.reduceBEq, Nat.reduceLeDiff, Nat.reduceLT, Nat.reduceDiv, Nat.reduceMod, drwK_some, disj, ordered, ancs])
theorem copyInts_arr (xs : List Int) (h : xs.length ≤ 4) : fnL Try.prog T L0 73 [.c (.arr 0 0 xs.length)] [some (.arr 1 (rI xs))] = some (.one (.c (.d (.sl 1 (rI xs)))), [some (.arr 1 (rI xs))]) := by
  have hroom : room = 70368744177664 := rfl
  have hl : (rI xs).length = xs.length := by simp [rI]
  have ha : ((rI xs).all fun r => r.length == 1) = true := by simp [rI]
  have ht : (rI xs).take xs.length = rI xs := List.take_of_length_le (by omega)
  refine fnL_run rfl N73 Try.func73 U73 ?_; have o := o73; simp only [OE, opsR, cqR, subR, chi, Try.f73] at o
  (try simp (maxSteps := 4000000) (disch := first | assumption | omega) only [go_sem, *, hl, ha, ht, o, pairsOk, ↓bin_eql, ↓bin_neq, Nat.reduceAdd, Nat.reduceSub, Nat.reduceMul, Nat.reduceBEq, Nat.reduceLeDiff, Nat.reduceLT, Nat.reduceDiv, Nat.reduceMod, drwK_some, disj, ordered, ancs]); repeat' ((first | with_reducible first | refine caK (fun hb => ?_) fun hb => ?_ | refine caG (fun hb => ?_) fun hb => ?_ | refine caP (fun hb => ?_) fun hb => ?_ | refine caH (fun hb => ?_) fun hb => ?_ | refine caQ (fun hb => ?_) fun hb => ?_ | refine ite_cases (fun hb => ?_) fun hb => ?_) <;> try simp (maxSteps := 4000000) (disch := first | assumption | omega) only [go_sem, *, hl, ha, ht, o, pairsOk, ↓bin_eql, ↓bin_neq, Nat.reduceAdd, Nat.reduceSub, Nat.reduceMul, Nat.reduceBEq, Nat.reduceLeDiff, Nat.reduceLT, Nat.reduceDiv, Nat.reduceMod, drwK_some, disj, ordered, ancs])
theorem ix0 (b : UInt8) (l : List UInt8) : pure1 Try.prog (Instr.index 9 (.string (B (b :: l))) (.int .i64 0)) = some (.one (.c (.d (.v (.int .u8 ((b.toNat : Int))))))) := IX9 (b :: l) .i64 0 ⟨by omega, by simp⟩
def adv (b : Bool) (l : List UInt8) : List UInt8 := match b with | true => l.drop 1 | false => l
/-- Does this byte come next? -/
def nx (c : UInt8) : List UInt8 → Bool
  | [] => false
  | b :: _ => decide ((b.toNat : Int) = (c.toNat : Int))
theorem is_ok (c : UInt8) (l : List UInt8) (bad : Bool) (ps : List (List D)) : fnL Try.prog T L0 71 [.c (.ptr 0 0 0), .c (.d (.v (.int .u8 ((c.toNat : Int)))))] (hP l bad ps) = some (.one (.c (.d (.v (.bool (nx c l))))), hP l bad ps) := by
  cases ps
  all_goals
    cases l with
    | nil =>
      simp only [hP, nx]
      refine fnL_run rfl N71 Try.func71 U71 ?_; have o := o71; simp only [OE, opsR, cqR, subR, chi, Try.f71] at o
      (try simp (maxSteps := 4000000) (disch := first | assumption | omega) only [go_sem, *, o, pairsOk, ↓bin_eql, ↓bin_neq, Nat.reduceAdd, Nat.reduceSub, Nat.reduceMul, Nat.reduceBEq, Nat.reduceLeDiff, Nat.reduceLT, Nat.reduceDiv, Nat.reduceMod, drwK_some, disj, ordered, ancs]); repeat' ((first | with_reducible first | refine caK (fun hb => ?_) fun hb => ?_ | refine caG (fun hb => ?_) fun hb => ?_ | refine caP (fun hb => ?_) fun hb => ?_ | refine caH (fun hb => ?_) fun hb => ?_ | refine caQ (fun hb => ?_) fun hb => ?_ | refine ite_cases (fun hb => ?_) fun hb => ?_) <;> try simp (maxSteps := 4000000) (disch := first | assumption | omega) only [go_sem, *, o, pairsOk, ↓bin_eql, ↓bin_neq, Nat.reduceAdd, Nat.reduceSub, Nat.reduceMul, Nat.reduceBEq, Nat.reduceLeDiff, Nat.reduceLT, Nat.reduceDiv, Nat.reduceMod, drwK_some, disj, ordered, ancs])
    | cons b l =>
      have e2 : ((b :: l) = []) = False := by simp
      simp only [hP, nx]
      refine fnL_run rfl N71 Try.func71 U71 ?_; have o := o71; simp only [OE, opsR, cqR, subR, chi, Try.f71] at o
      (try simp (maxSteps := 4000000) (disch := first | assumption | omega) only [go_sem, *, e2, ix0, o, pairsOk, ↓bin_eql, ↓bin_neq, Nat.reduceAdd, Nat.reduceSub, Nat.reduceMul, Nat.reduceBEq, Nat.reduceLeDiff, Nat.reduceLT, Nat.reduceDiv, Nat.reduceMod, drwK_some, disj, ordered, ancs]); repeat' ((first | with_reducible first | refine caK (fun hb => ?_) fun hb => ?_ | refine caG (fun hb => ?_) fun hb => ?_ | refine caP (fun hb => ?_) fun hb => ?_ | refine caH (fun hb => ?_) fun hb => ?_ | refine caQ (fun hb => ?_) fun hb => ?_ | refine ite_cases (fun hb => ?_) fun hb => ?_) <;> try simp (maxSteps := 4000000) (disch := first | assumption | omega) only [go_sem, *, e2, ix0, o, pairsOk, ↓bin_eql, ↓bin_neq, Nat.reduceAdd, Nat.reduceSub, Nat.reduceMul, Nat.reduceBEq, Nat.reduceLeDiff, Nat.reduceLT, Nat.reduceDiv, Nat.reduceMod, drwK_some, disj, ordered, ancs])
theorem take_ok (c : UInt8) (l : List UInt8) (bad : Bool) (ps : List (List D)) : fnL Try.prog T L0 60 [.c (.ptr 0 0 0), .c (.d (.v (.int .u8 ((c.toNat : Int)))))] (hP l bad ps) = some (.one (.c (.d (.v (.bool (nx c l))))), hP (adv (nx c l) l) bad ps) := by
  have hi := is_ok c l bad ps
  cases ps
  all_goals
    cases l with
    | nil =>
      simp only [hP, nx, adv] at hi ⊢
      refine fnL_run rfl N60 Try.func60 U60 ?_; have o := o60; simp only [OE, opsR, cqR, subR, chi, Try.f60] at o
      (try simp (maxSteps := 4000000) (disch := first | assumption | omega) only [go_sem, *, hi, o, pairsOk, ↓bin_eql, ↓bin_neq, Nat.reduceAdd, Nat.reduceSub, Nat.reduceMul, Nat.reduceBEq, Nat.reduceLeDiff, Nat.reduceLT, Nat.reduceDiv, Nat.reduceMod, drwK_some, disj, ordered, ancs]); repeat' ((first | with_reducible first | refine caK (fun hb => ?_) fun hb => ?_ | refine caG (fun hb => ?_) fun hb => ?_ | refine caP (fun hb => ?_) fun hb => ?_ | refine caH (fun hb => ?_) fun hb => ?_ | refine caQ (fun hb => ?_) fun hb => ?_ | refine ite_cases (fun hb => ?_) fun hb => ?_) <;> try simp (maxSteps := 4000000) (disch := first | assumption | omega) only [go_sem, *, hi, o, pairsOk, ↓bin_eql, ↓bin_neq, Nat.reduceAdd, Nat.reduceSub, Nat.reduceMul, Nat.reduceBEq, Nat.reduceLeDiff, Nat.reduceLT, Nat.reduceDiv, Nat.reduceMod, drwK_some, disj, ordered, ancs])
    | cons b l =>
      simp only [nx] at hi ⊢
      generalize decide ((b.toNat : Int) = (c.toNat : Int)) = t at hi ⊢
      cases t
      all_goals
        simp only [hP, adv] at hi ⊢
        have ht : ((b :: l).drop 1).take ((b :: l).length - 1) = l := by simp
        have ht2 : (b :: l).drop 1 = l := rfl
        have ht3 : l.take (l.length + 1 - 1) = l := by simp
        refine fnL_run rfl N60 Try.func60 U60 ?_; have o := o60; simp only [OE, opsR, cqR, subR, chi, Try.f60] at o
        (try simp (maxSteps := 4000000) (disch := first | assumption | omega) only [go_sem, *, hi, ht, ht2, ht3, Int.toNat_one, Int.le_refl, o, pairsOk, ↓bin_eql, ↓bin_neq, Nat.reduceAdd, Nat.reduceSub, Nat.reduceMul, Nat.reduceBEq, Nat.reduceLeDiff, Nat.reduceLT, Nat.reduceDiv, Nat.reduceMod, drwK_some, disj, ordered, ancs]); repeat' ((first | with_reducible first | refine caK (fun hb => ?_) fun hb => ?_ | refine caG (fun hb => ?_) fun hb => ?_ | refine caP (fun hb => ?_) fun hb => ?_ | refine caH (fun hb => ?_) fun hb => ?_ | refine caQ (fun hb => ?_) fun hb => ?_ | refine ite_cases (fun hb => ?_) fun hb => ?_) <;> try simp (maxSteps := 4000000) (disch := first | assumption | omega) only [go_sem, *, hi, ht, ht2, ht3, Int.toNat_one, Int.le_refl, o, pairsOk, ↓bin_eql, ↓bin_neq, Nat.reduceAdd, Nat.reduceSub, Nat.reduceMul, Nat.reduceBEq, Nat.reduceLeDiff, Nat.reduceLT, Nat.reduceDiv, Nat.reduceMod, drwK_some, disj, ordered, ancs])
/-- A piece's row. -/
def row (op : Int) (t : List UInt8) (ks : List Int) : List D := [.v (.int .i64 (op)), .v (.string (B (t))), .sl 1 (rI ks)]
theorem put_nil (op : Int) (t : List UInt8) (l : List UInt8) (bad : Bool) (R : List (List D)) (hn : R.length ≤ 100) : fnL Try.prog T L0 61 [.c (.ptr 0 0 0), .c (.d (.v (.int .i64 (op)))), .c (.d (.v (.string (B (t))))), .c (.d (.v (.slice none 0 0)))] (hP l bad R) = some (.one (.c (.d (.v (.int .i64 ((R.length : Int)))))), hQ R l bad (R ++ [row op t []])) := by
  have hroom : room = 70368744177664 := rfl
  have e : row op t [] = [.v (.int .i64 (op)), .v (.string (B (t))), .sl 1 []] := rfl
  rw [e]
  cases R with
  | nil =>
    simp only [hP, hQ, List.nil_append]
    refine fnL_run rfl N61 Try.func61 U61 ?_; have o := o61; simp only [OE, opsR, cqR, subR, chi, Try.f61] at o
    (try simp (maxSteps := 4000000) (disch := first | assumption | omega) only [go_sem, *, copyInts_nil, arr_all, Option.isSome_some, o, ↓bin_eqI, ↓bin_neI, Nat.reduceAdd, Nat.reduceSub, Nat.reduceMul, Nat.reduceBEq, Nat.reduceLeDiff, Nat.reduceLT, Nat.reduceDiv, Nat.reduceMod]); repeat' ((first | with_reducible first | refine caK (fun hb => ?_) fun hb => ?_ | refine caG (fun hb => ?_) fun hb => ?_ | refine caP (fun hb => ?_) fun hb => ?_ | refine caH (fun hb => ?_) fun hb => ?_ | refine caQ (fun hb => ?_) fun hb => ?_ | refine ite_cases (fun hb => ?_) fun hb => ?_ | rw [drwK_ok rfl]) <;> try simp (maxSteps := 4000000) (disch := first | assumption | omega) only [go_sem, *, copyInts_nil, arr_all, Option.isSome_some, o, ↓bin_eqI, ↓bin_neI, Nat.reduceAdd, Nat.reduceSub, Nat.reduceMul, Nat.reduceBEq, Nat.reduceLeDiff, Nat.reduceLT, Nat.reduceDiv, Nat.reduceMod])
    all_goals rfl
  | cons p ps =>
    have hps : ps.length ≤ 99 := by simpa using hn
    obtain ⟨R, hR⟩ : ∃ R, R = p :: ps := ⟨_, rfl⟩
    have hl : R.length = ps.length + 1 := by rw [hR]; rfl
    have ht : R.take (ps.length + 1) = R := List.take_of_length_le (by omega)
    simp only [hP, hQ]
    rw [← hR]
    clear hR hn
    have hs : ((ps.length + 1 + 1 : Nat) : Int) - 1 = ((ps.length + 1 : Nat) : Int) := by omega
    refine fnL_run rfl N61 Try.func61 U61 ?_; have o := o61; simp only [OE, opsR, cqR, subR, chi, Try.f61] at o
    (try simp (maxSteps := 4000000) (disch := first | assumption | omega) only [go_sem, *, copyInts_nil, arr_all, Option.isSome_some, hl, ht, hs, List.length_append, o, ↓bin_eqI, ↓bin_neI, Nat.reduceAdd, Nat.reduceSub, Nat.reduceMul, Nat.reduceBEq, Nat.reduceLeDiff, Nat.reduceLT, Nat.reduceDiv, Nat.reduceMod]); repeat' ((first | with_reducible first | refine caK (fun hb => ?_) fun hb => ?_ | refine caG (fun hb => ?_) fun hb => ?_ | refine caP (fun hb => ?_) fun hb => ?_ | refine caH (fun hb => ?_) fun hb => ?_ | refine caQ (fun hb => ?_) fun hb => ?_ | refine ite_cases (fun hb => ?_) fun hb => ?_ | rw [drwK_ok rfl]) <;> try simp (maxSteps := 4000000) (disch := first | assumption | omega) only [go_sem, *, copyInts_nil, arr_all, Option.isSome_some, hl, ht, hs, List.length_append, o, ↓bin_eqI, ↓bin_neI, Nat.reduceAdd, Nat.reduceSub, Nat.reduceMul, Nat.reduceBEq, Nat.reduceLeDiff, Nat.reduceLT, Nat.reduceDiv, Nat.reduceMod])
theorem put_kids (op : Int) (t : List UInt8) (ks : List Int) (hk : ks.length ≤ 4) (l : List UInt8) (bad : Bool) (R : List (List D)) (n : Nat) (hn : R.length = n) (h1 : 1 ≤ n ∧ n ≤ 100) :
    fnL Try.prog T L0 61 [.c (.ptr 0 0 0), .c (.d (.v (.int .i64 (op)))), .c (.d (.v (.string (B (t))))), .c (.arr 2 0 ks.length)] [some (.var [.d (.v (.string (B (l)))), .arr 1 0 n, .d (.v (.bool (bad)))]), some (.arr 3 R), some (.arr 1 (rI ks))] =
      some (.one (.c (.d (.v (.int .i64 ((n : Int)))))), [some (.var [.d (.v (.string (B (l)))), .arr 3 0 (n + 1), .d (.v (.bool (bad)))]), none, some (.arr 1 (rI ks)), some (.arr 3 (R ++ [row op t ks]))]) := by
  have hroom : room = 70368744177664 := rfl
  have e : row op t ks = [.v (.int .i64 (op)), .v (.string (B (t))), .sl 1 (rI ks)] := rfl
  rw [e]
  have ht : R.take n = R := List.take_of_length_le (by omega)
  have hs : ((n + 1 : Nat) : Int) - 1 = (n : Int) := by omega
  have hc := copyInts_arr ks hk
  refine fnL_run rfl N61 Try.func61 U61 ?_; have o := o61; simp only [OE, opsR, cqR, subR, chi, Try.f61] at o
  (try simp (maxSteps := 4000000) (disch := first | assumption | omega) only [go_sem, *, hc, arr_all, Option.isSome_some, ht, hs, o, ↓bin_eqI, ↓bin_neI, Nat.reduceAdd, Nat.reduceSub, Nat.reduceMul, Nat.reduceBEq, Nat.reduceLeDiff, Nat.reduceLT, Nat.reduceDiv, Nat.reduceMod]); repeat' ((first | with_reducible first | refine caK (fun hb => ?_) fun hb => ?_ | refine caG (fun hb => ?_) fun hb => ?_ | refine caP (fun hb => ?_) fun hb => ?_ | refine caH (fun hb => ?_) fun hb => ?_ | refine caQ (fun hb => ?_) fun hb => ?_ | refine ite_cases (fun hb => ?_) fun hb => ?_ | rw [drwK_ok rfl]) <;> try simp (maxSteps := 4000000) (disch := first | assumption | omega) only [go_sem, *, hc, arr_all, Option.isSome_some, ht, hs, o, ↓bin_eqI, ↓bin_neI, Nat.reduceAdd, Nat.reduceSub, Nat.reduceMul, Nat.reduceBEq, Nat.reduceLeDiff, Nat.reduceLT, Nat.reduceDiv, Nat.reduceMod])
theorem sIndexByte_ok (s : List UInt8) (c : UInt8) : fnL Try.prog T L0 74 [.c (.d (.v (.string (B (s))))), .c (.d (.v (.int .u8 ((c.toNat : Int)))))] [] = some (.one (.c (.d (.v (.int .i64 (Go.Lib.indexByte s c))))), []) := by
  have h := indexByte_ok s c
  refine fnL_run rfl N74 Try.func74 U74 ?_; have o := o74; simp only [OE, opsR, cqR, subR, chi, Try.f74] at o
  (try simp (maxSteps := 4000000) (disch := first | assumption | omega) only [go_sem, *, h, o, ↓bin_eqI, ↓bin_neI, Nat.reduceAdd, Nat.reduceSub, Nat.reduceMul, Nat.reduceBEq, Nat.reduceLeDiff, Nat.reduceLT, Nat.reduceDiv, Nat.reduceMod]); repeat' ((first | with_reducible first | refine caK (fun hb => ?_) fun hb => ?_ | refine caG (fun hb => ?_) fun hb => ?_ | refine caP (fun hb => ?_) fun hb => ?_ | refine caH (fun hb => ?_) fun hb => ?_ | refine caQ (fun hb => ?_) fun hb => ?_ | refine ite_cases (fun hb => ?_) fun hb => ?_ | rw [drwK_ok rfl]) <;> try simp (maxSteps := 4000000) (disch := first | assumption | omega) only [go_sem, *, h, o, ↓bin_eqI, ↓bin_neI, Nat.reduceAdd, Nat.reduceSub, Nat.reduceMul, Nat.reduceBEq, Nat.reduceLeDiff, Nat.reduceLT, Nat.reduceDiv, Nat.reduceMod])
/-- What stands ahead of a closing bracket, and behind it. -/
def mCut : List UInt8 → Option (List UInt8 × List UInt8)
  | [] => none
  | b :: l => if b = 93 then some ([], l) else match mCut l with | none => none | some (x, y) => some (b :: x, y)
theorem mCut_none : ∀ l : List UInt8, mCut l = none → Go.Lib.indexByte l 93 = -1
  | [], _ => rfl
  | b :: l, h => by
    unfold mCut at h
    split at h
    · cases h
    · rename_i hb
      have : mCut l = none := by
        revert h
        cases mCut l with
        | none => intro _; rfl
        | some x => intro h; cases h
      have ih := mCut_none l this
      unfold Go.Lib.indexByte
      rw [ih]
      simp [hb]
theorem mCut_some : ∀ (l x y : List UInt8), mCut l = some (x, y) → l = x ++ 93 :: y ∧ Go.Lib.indexByte l 93 = x.length
  | [], x, y, h => by cases h
  | b :: l, x, y, h => by
    unfold mCut at h
    split at h
    · rename_i hb
      obtain ⟨rfl, rfl⟩ := Prod.mk.inj (Option.some.inj h)
      subst hb
      exact ⟨rfl, by simp [Go.Lib.indexByte]⟩
    · rename_i hb
      cases hc : mCut l with
      | none => rw [hc] at h; cases h
      | some z =>
        obtain ⟨x', y'⟩ := z
        rw [hc] at h
        obtain ⟨rfl, rfl⟩ := Prod.mk.inj (Option.some.inj h)
        obtain ⟨h1, h2⟩ := mCut_some l x' y' hc
        refine ⟨by rw [h1]; rfl, ?_⟩
        unfold Go.Lib.indexByte
        rw [h2]
        have : ¬ (((x'.length : Nat) : Int) == -1) = true := by simp
        simp [hb]
theorem lIndex_ok (s : List UInt8) (hs : s.length ≤ 100) : fnL Try.prog T L0 90 [.c (.d (.v (.string (B (s))))), .c (.d (.v (.string (B ([93])))))] [] = some (.one (.c (.d (.v (.int .i64 (Go.Lib.indexByte s 93))))), []) := by
  have h := indexByte_ok s 93
  have e : ((93 : UInt8).toNat : Int) = 93 := rfl
  rw [e] at h
  have hx := ix0 93 []
  rw [e] at hx
  by_cases hq : [93] = s
  · subst hq
    have h0 : Go.Lib.indexByte [93] 93 = 0 := by decide
    rw [h0] at h ⊢
    refine fnL_run rfl N90 Try.func90 U90 ?_; have o := o90; simp only [OE, opsR, cqR, subR, chi, Try.f90] at o
    (try simp (maxSteps := 4000000) (disch := first | assumption | omega) only [go_sem, *, h, hx, o, ↓bin_eqI, ↓bin_neI, Nat.reduceAdd, Nat.reduceSub, Nat.reduceMul, Nat.reduceBEq, Nat.reduceLeDiff, Nat.reduceLT, Nat.reduceDiv, Nat.reduceMod]); repeat' ((first | with_reducible first | refine caK (fun hb => ?_) fun hb => ?_ | refine caG (fun hb => ?_) fun hb => ?_ | refine caP (fun hb => ?_) fun hb => ?_ | refine caH (fun hb => ?_) fun hb => ?_ | refine caQ (fun hb => ?_) fun hb => ?_ | refine ite_cases (fun hb => ?_) fun hb => ?_ | rw [drwK_ok rfl]) <;> try simp (maxSteps := 4000000) (disch := first | assumption | omega) only [go_sem, *, h, hx, o, ↓bin_eqI, ↓bin_neI, Nat.reduceAdd, Nat.reduceSub, Nat.reduceMul, Nat.reduceBEq, Nat.reduceLeDiff, Nat.reduceLT, Nat.reduceDiv, Nat.reduceMod])
  · have hq2 : decide ([93] = s) = false := by simpa using hq
    refine fnL_run rfl N90 Try.func90 U90 ?_; have o := o90; simp only [OE, opsR, cqR, subR, chi, Try.f90] at o
    (try simp (maxSteps := 4000000) (disch := first | assumption | omega) only [go_sem, *, h, hx, hq2, o, ↓bin_eqI, ↓bin_neI, Nat.reduceAdd, Nat.reduceSub, Nat.reduceMul, Nat.reduceBEq, Nat.reduceLeDiff, Nat.reduceLT, Nat.reduceDiv, Nat.reduceMod]); repeat' ((first | with_reducible first | refine caK (fun hb => ?_) fun hb => ?_ | refine caG (fun hb => ?_) fun hb => ?_ | refine caP (fun hb => ?_) fun hb => ?_ | refine caH (fun hb => ?_) fun hb => ?_ | refine caQ (fun hb => ?_) fun hb => ?_ | refine ite_cases (fun hb => ?_) fun hb => ?_ | rw [drwK_ok rfl]) <;> try simp (maxSteps := 4000000) (disch := first | assumption | omega) only [go_sem, *, h, hx, hq2, o, ↓bin_eqI, ↓bin_neI, Nat.reduceAdd, Nat.reduceSub, Nat.reduceMul, Nat.reduceBEq, Nat.reduceLeDiff, Nat.reduceLT, Nat.reduceDiv, Nat.reduceMod])
theorem lCut_ok (s : List UInt8) (hs : s.length ≤ 100) : fnL Try.prog T L0 89 [.c (.d (.v (.string (B (s))))), .c (.d (.v (.string (B ([93])))))] [] = some (match mCut s with | none => .tup [.c (.d (.v (.string (B (s))))), .c (.d (.v (.string (B ([]))))), .c (.d (.v (.bool (false))))] | some (x, y) => .tup [.c (.d (.v (.string (B (x))))), .c (.d (.v (.string (B (y))))), .c (.d (.v (.bool (true))))], []) := by
  have h := lIndex_ok s hs
  cases hc : mCut s with
  | none =>
    rw [mCut_none s hc] at h
    refine fnL_run rfl N89 Try.func89 U89 ?_; have o := o89; simp only [OE, opsR, cqR, subR, chi, Try.f89] at o
    (try simp (maxSteps := 4000000) (disch := first | assumption | omega) only [go_sem, *, h, resOnes, Option.toArray, o, ↓bin_eqI, ↓bin_neI, Nat.reduceAdd, Nat.reduceSub, Nat.reduceMul, Nat.reduceBEq, Nat.reduceLeDiff, Nat.reduceLT, Nat.reduceDiv, Nat.reduceMod]); repeat' ((first | with_reducible first | refine caK (fun hb => ?_) fun hb => ?_ | refine caG (fun hb => ?_) fun hb => ?_ | refine caP (fun hb => ?_) fun hb => ?_ | refine caH (fun hb => ?_) fun hb => ?_ | refine caQ (fun hb => ?_) fun hb => ?_ | refine ite_cases (fun hb => ?_) fun hb => ?_ | rw [drwK_ok rfl]) <;> try simp (maxSteps := 4000000) (disch := first | assumption | omega) only [go_sem, *, h, resOnes, Option.toArray, o, ↓bin_eqI, ↓bin_neI, Nat.reduceAdd, Nat.reduceSub, Nat.reduceMul, Nat.reduceBEq, Nat.reduceLeDiff, Nat.reduceLT, Nat.reduceDiv, Nat.reduceMod])
  | some z =>
    obtain ⟨x, y⟩ := z
    obtain ⟨h1, h2⟩ := mCut_some s x y hc
    rw [h2] at h
    have hl : s.length = x.length + 1 + y.length := by rw [h1]; simp; omega
    have t1 : (s.drop 0).take (x.length - 0) = x := by rw [h1]; simp
    have t2 : s.take x.length = x := by rw [h1]; simp
    have t3 : (s.drop (x.length + 1)).take (x.length + 1 + y.length - (x.length + 1)) = y := by
      rw [h1, show x.length + 1 + y.length - (x.length + 1) = y.length by omega, show x ++ 93 :: y = (x ++ [93]) ++ y by simp, List.drop_left' (by simp)]
      simp
    have e1 : ((x.length : Int) + ((1 : Nat) : Int)).toNat = x.length + 1 := by omega
    have e2 : (((x.length + 1 + y.length : Nat) : Int)).toNat = x.length + 1 + y.length := by omega
    clear hc h1 h2
    refine fnL_run rfl N89 Try.func89 U89 ?_; have o := o89; simp only [OE, opsR, cqR, subR, chi, Try.f89] at o
    (try simp (maxSteps := 4000000) (disch := first | assumption | omega) only [go_sem, *, h, resOnes, Option.toArray, hl, t2, t3, e1, e2, Nat.sub_zero, Int.toNat_zero, Int.le_refl, o, ↓bin_eqI, ↓bin_neI, Nat.reduceAdd, Nat.reduceSub, Nat.reduceMul, Nat.reduceBEq, Nat.reduceLeDiff, Nat.reduceLT, Nat.reduceDiv, Nat.reduceMod]); repeat' ((first | with_reducible first | refine caK (fun hb => ?_) fun hb => ?_ | refine caG (fun hb => ?_) fun hb => ?_ | refine caP (fun hb => ?_) fun hb => ?_ | refine caH (fun hb => ?_) fun hb => ?_ | refine caQ (fun hb => ?_) fun hb => ?_ | refine ite_cases (fun hb => ?_) fun hb => ?_ | rw [drwK_ok rfl]) <;> try simp (maxSteps := 4000000) (disch := first | assumption | omega) only [go_sem, *, h, resOnes, Option.toArray, hl, t2, t3, e1, e2, Nat.sub_zero, Int.toNat_zero, Int.le_refl, o, ↓bin_eqI, ↓bin_neI, Nat.reduceAdd, Nat.reduceSub, Nat.reduceMul, Nat.reduceBEq, Nat.reduceLeDiff, Nat.reduceLT, Nat.reduceDiv, Nat.reduceMod])
theorem sCut_ok (s : List UInt8) (hs : s.length ≤ 100) : fnL Try.prog T L0 88 [.c (.d (.v (.string (B (s))))), .c (.d (.v (.string (B ([93])))))] [] = some (match mCut s with | none => .tup [.c (.d (.v (.string (B (s))))), .c (.d (.v (.string (B ([]))))), .c (.d (.v (.bool (false))))] | some (x, y) => .tup [.c (.d (.v (.string (B (x))))), .c (.d (.v (.string (B (y))))), .c (.d (.v (.bool (true))))], []) := by
  have h := lCut_ok s hs
  cases hc : mCut s with
  | none =>
    rw [hc] at h
    simp only at h
    clear hc
    refine fnL_run rfl N88 Try.func88 U88 ?_; have o := o88; simp only [OE, opsR, cqR, subR, chi, Try.f88] at o
    (try simp (maxSteps := 4000000) (disch := first | assumption | omega) only [go_sem, *, h, resOnes, o, ↓bin_eqI, ↓bin_neI, Nat.reduceAdd, Nat.reduceSub, Nat.reduceMul, Nat.reduceBEq, Nat.reduceLeDiff, Nat.reduceLT, Nat.reduceDiv, Nat.reduceMod]); repeat' ((first | with_reducible first | refine caK (fun hb => ?_) fun hb => ?_ | refine caG (fun hb => ?_) fun hb => ?_ | refine caP (fun hb => ?_) fun hb => ?_ | refine caH (fun hb => ?_) fun hb => ?_ | refine caQ (fun hb => ?_) fun hb => ?_ | refine ite_cases (fun hb => ?_) fun hb => ?_ | rw [drwK_ok rfl]) <;> try simp (maxSteps := 4000000) (disch := first | assumption | omega) only [go_sem, *, h, resOnes, o, ↓bin_eqI, ↓bin_neI, Nat.reduceAdd, Nat.reduceSub, Nat.reduceMul, Nat.reduceBEq, Nat.reduceLeDiff, Nat.reduceLT, Nat.reduceDiv, Nat.reduceMod])
  | some z =>
    obtain ⟨x, y⟩ := z
    rw [hc] at h
    simp only at h
    clear hc
    refine fnL_run rfl N88 Try.func88 U88 ?_; have o := o88; simp only [OE, opsR, cqR, subR, chi, Try.f88] at o
    (try simp (maxSteps := 4000000) (disch := first | assumption | omega) only [go_sem, *, h, resOnes, o, ↓bin_eqI, ↓bin_neI, Nat.reduceAdd, Nat.reduceSub, Nat.reduceMul, Nat.reduceBEq, Nat.reduceLeDiff, Nat.reduceLT, Nat.reduceDiv, Nat.reduceMod]); repeat' ((first | with_reducible first | refine caK (fun hb => ?_) fun hb => ?_ | refine caG (fun hb => ?_) fun hb => ?_ | refine caP (fun hb => ?_) fun hb => ?_ | refine caH (fun hb => ?_) fun hb => ?_ | refine caQ (fun hb => ?_) fun hb => ?_ | refine ite_cases (fun hb => ?_) fun hb => ?_ | rw [drwK_ok rfl]) <;> try simp (maxSteps := 4000000) (disch := first | assumption | omega) only [go_sem, *, h, resOnes, o, ↓bin_eqI, ↓bin_neI, Nat.reduceAdd, Nat.reduceSub, Nat.reduceMul, Nat.reduceBEq, Nat.reduceLeDiff, Nat.reduceLT, Nat.reduceDiv, Nat.reduceMod])
theorem special_ix (l : List UInt8) (c : UInt8) : decide (0 ≤ Go.Lib.indexByte l c) = l.any (fun x => decide ((x.toNat : Int) = (c.toNat : Int))) := by
  induction l with
  | nil => rfl
  | cons a l ih =>
    rw [List.any_cons, ← ih, byte_eq]
    have hg := Go.Lib.indexByte_ge l c
    rw [show Go.Lib.indexByte (a :: l) c = if a == c then 0 else if Go.Lib.indexByte l c == -1 then -1 else Go.Lib.indexByte l c + 1 from rfl]
    by_cases hac : a = c
    · simp [hac]
    · simp only [hac, beq_iff_eq, if_false, decide_false, Bool.false_or]
      rw [decide_eq_decide]
      split <;> omega
def spec (c : UInt8) : Bool := signs.any fun x => decide ((x.toNat : Int) = (c.toNat : Int))
/-- One byte, or such a one behind a sign. -/
def mSingle : List UInt8 → Option (List UInt8)
  | [] => none
  | b :: l => if (b.toNat : Int) = 92 then (match l with | [] => none | c :: r => if spec c = true then some r else none) else if spec b = true then none else some l
/-- How a reader's function answers: good, with one piece or more; or bad. -/
def Ans (M : Nat) (R0 : List (List D)) (r : Option (W × List (Option Blk))) (good : List UInt8 → Nat → List (List D) → Prop) : Option (List UInt8) → Prop
  | some rest => ∃ (a : Nat) (R : List (List D)), r = some (.one (.c (.d (.v (.int .i64 ((a : Int)))))), hQ R0 rest false R) ∧ good rest a R
  | none => ∃ (w : Int) (bs : List (Option Blk)), r = some (.one (.c (.d (.v (.int .i64 (w))))), bs) ∧ ((∃ l, bs = hP l true R0) ∨ ∃ l R, 1 ≤ R.length ∧ R.length ≤ M ∧ bs = hQ R0 l true R)
theorem sIx_special (c : UInt8) : fnL Try.prog T L0 74 [.c (.d (.v (.string (B ([42, 43, 63, 124, 40, 41, 91, 93, 46, 94, 36, 92]))))), .c (.d (.v (.int .u8 ((c.toNat : Int)))))] [] = some (.one (.c (.d (.v (.int .i64 (Go.Lib.indexByte signs c))))), []) := sIndexByte_ok signs c
theorem single_ok (M : Nat) (l : List UInt8) (R0 : List (List D)) (hR : R0.length ≤ 100) (hl : l.length ≤ 30) :
    Ans M R0 (fnL Try.prog T L0 84 [.c (.ptr 0 0 0)] (hP l false R0)) (fun rest a R => a = R0.length ∧ ∃ t, t.length = 1 ∧ R = R0 ++ [row 1 t []]) (mSingle l) := by
  have e92 : ((92 : UInt8).toNat : Int) = 92 := rfl
  cases l with
  | nil =>
    have ht := take_ok 92 [] false R0
    simp only [nx, adv, e92] at ht
    refine ⟨0, hP [] true R0, ?_, .inl ⟨_, rfl⟩⟩
    cases R0
    all_goals
      simp only [hP] at ht ⊢
      refine fnL_run rfl N84 Try.func84 U84 ?_; have o := o84; simp only [OE, opsR, cqR, subR, chi, Try.f84] at o
      (try simp (maxSteps := 4000000) (disch := first | assumption | omega) only [go_sem, *, ht, o, ↓bin_eqI, ↓bin_neI, Nat.reduceAdd, Nat.reduceSub, Nat.reduceMul, Nat.reduceBEq, Nat.reduceLeDiff, Nat.reduceLT, Nat.reduceDiv, Nat.reduceMod]); repeat' ((first | with_reducible first | refine caK (fun hb => ?_) fun hb => ?_ | refine caG (fun hb => ?_) fun hb => ?_ | refine caP (fun hb => ?_) fun hb => ?_ | refine caH (fun hb => ?_) fun hb => ?_ | refine caQ (fun hb => ?_) fun hb => ?_ | refine ite_cases (fun hb => ?_) fun hb => ?_ | rw [drwK_ok rfl]) <;> try simp (maxSteps := 4000000) (disch := first | assumption | omega) only [go_sem, *, ht, o, ↓bin_eqI, ↓bin_neI, Nat.reduceAdd, Nat.reduceSub, Nat.reduceMul, Nat.reduceBEq, Nat.reduceLeDiff, Nat.reduceLT, Nat.reduceDiv, Nat.reduceMod])
  | cons b l =>
    have ht := take_ok 92 (b :: l) false R0
    simp only [nx, e92] at ht
    simp only [mSingle]
    by_cases hb : (b.toNat : Int) = 92
    · rw [if_pos hb]
      rw [decide_eq_true hb] at ht
      simp only [adv, List.drop_succ_cons, List.drop_zero] at ht
      cases l with
      | nil =>
        refine ⟨0, hP [] true R0, ?_, .inl ⟨_, rfl⟩⟩
        clear hb
        cases R0
        all_goals
          simp only [hP] at ht ⊢
          refine fnL_run rfl N84 Try.func84 U84 ?_; have o := o84; simp only [OE, opsR, cqR, subR, chi, Try.f84] at o
          (try simp (maxSteps := 4000000) (disch := first | assumption | omega) only [go_sem, *, ht, o, ↓bin_eqI, ↓bin_neI, Nat.reduceAdd, Nat.reduceSub, Nat.reduceMul, Nat.reduceBEq, Nat.reduceLeDiff, Nat.reduceLT, Nat.reduceDiv, Nat.reduceMod]); repeat' ((first | with_reducible first | refine caK (fun hb => ?_) fun hb => ?_ | refine caG (fun hb => ?_) fun hb => ?_ | refine caP (fun hb => ?_) fun hb => ?_ | refine caH (fun hb => ?_) fun hb => ?_ | refine caQ (fun hb => ?_) fun hb => ?_ | refine ite_cases (fun hb => ?_) fun hb => ?_ | rw [drwK_ok rfl]) <;> try simp (maxSteps := 4000000) (disch := first | assumption | omega) only [go_sem, *, ht, o, ↓bin_eqI, ↓bin_neI, Nat.reduceAdd, Nat.reduceSub, Nat.reduceMul, Nat.reduceBEq, Nat.reduceLeDiff, Nat.reduceLT, Nat.reduceDiv, Nat.reduceMod])
      | cons c r =>
        have hi := sIx_special c
        have hs := special_ix signs c
        have hx := ix0 c r
        have hp := put_nil 1 [c] r false R0 hR
        have ht3 : r.take (r.length + 1 - 1) = r := by simp
        have e2 : ((c :: r) = []) = False := by simp
        have h1le : (1 : Int) ≤ ((r.length + 1 : Nat) : Int) := by omega
        clear hb
        by_cases hc : spec c = true
        · simp only [if_pos hc]
          refine ⟨R0.length, R0 ++ [row 1 [c] []], ?_, rfl, [c], rfl, rfl⟩
          have hs2 : decide (0 ≤ Go.Lib.indexByte signs c) = true := by rw [hs]; exact hc
          clear hs hc
          cases R0
          all_goals
            simp only [hP, hQ] at ht hp ⊢
            refine fnL_run rfl N84 Try.func84 U84 ?_; have o := o84; simp only [OE, opsR, cqR, subR, chi, Try.f84] at o
            (try simp (maxSteps := 4000000) (disch := first | assumption | omega) only [go_sem, *, ht, hi, hs2, hx, hp, ht3, e2, Int.le_refl, Int.toNat_one, Int.toNat_zero, Nat.sub_zero, List.length_append, o, ↓bin_eqI, ↓bin_neI, Nat.reduceAdd, Nat.reduceSub, Nat.reduceMul, Nat.reduceBEq, Nat.reduceLeDiff, Nat.reduceLT, Nat.reduceDiv, Nat.reduceMod]); repeat' ((first | with_reducible first | refine caK (fun hb => ?_) fun hb => ?_ | refine caG (fun hb => ?_) fun hb => ?_ | refine caP (fun hb => ?_) fun hb => ?_ | refine caH (fun hb => ?_) fun hb => ?_ | refine caQ (fun hb => ?_) fun hb => ?_ | refine ite_cases (fun hb => ?_) fun hb => ?_ | rw [drwK_ok rfl]) <;> try simp (maxSteps := 4000000) (disch := first | assumption | omega) only [go_sem, *, ht, hi, hs2, hx, hp, ht3, e2, Int.le_refl, Int.toNat_one, Int.toNat_zero, Nat.sub_zero, List.length_append, o, ↓bin_eqI, ↓bin_neI, Nat.reduceAdd, Nat.reduceSub, Nat.reduceMul, Nat.reduceBEq, Nat.reduceLeDiff, Nat.reduceLT, Nat.reduceDiv, Nat.reduceMod])
        · simp only [if_neg hc]
          refine ⟨0, hP (c :: r) true R0, ?_, .inl ⟨_, rfl⟩⟩
          have hs2 : decide (0 ≤ Go.Lib.indexByte signs c) = false := by rw [hs]; simpa [spec] using hc
          clear hs hc hp
          cases R0
          all_goals
            simp only [hP] at ht ⊢
            refine fnL_run rfl N84 Try.func84 U84 ?_; have o := o84; simp only [OE, opsR, cqR, subR, chi, Try.f84] at o
            (try simp (maxSteps := 4000000) (disch := first | assumption | omega) only [go_sem, *, ht, hi, hs2, hx, ht3, e2, Int.le_refl, Int.toNat_one, Int.toNat_zero, Nat.sub_zero, List.length_append, o, ↓bin_eqI, ↓bin_neI, Nat.reduceAdd, Nat.reduceSub, Nat.reduceMul, Nat.reduceBEq, Nat.reduceLeDiff, Nat.reduceLT, Nat.reduceDiv, Nat.reduceMod]); repeat' ((first | with_reducible first | refine caK (fun hb => ?_) fun hb => ?_ | refine caG (fun hb => ?_) fun hb => ?_ | refine caP (fun hb => ?_) fun hb => ?_ | refine caH (fun hb => ?_) fun hb => ?_ | refine caQ (fun hb => ?_) fun hb => ?_ | refine ite_cases (fun hb => ?_) fun hb => ?_ | rw [drwK_ok rfl]) <;> try simp (maxSteps := 4000000) (disch := first | assumption | omega) only [go_sem, *, ht, hi, hs2, hx, ht3, e2, Int.le_refl, Int.toNat_one, Int.toNat_zero, Nat.sub_zero, List.length_append, o, ↓bin_eqI, ↓bin_neI, Nat.reduceAdd, Nat.reduceSub, Nat.reduceMul, Nat.reduceBEq, Nat.reduceLeDiff, Nat.reduceLT, Nat.reduceDiv, Nat.reduceMod])
    · rw [if_neg hb]
      rw [decide_eq_false hb] at ht
      simp only [adv] at ht
      have hi := sIx_special b
      have hs := special_ix signs b
      have hx := ix0 b l
      have hp := put_nil 1 [b] l false R0 hR
      have ht3 : l.take (l.length + 1 - 1) = l := by simp
      have e2 : ((b :: l) = []) = False := by simp
      have h1le : (1 : Int) ≤ ((l.length + 1 : Nat) : Int) := by omega
      clear hb
      by_cases hc : spec b = true
      · simp only [if_pos hc]
        refine ⟨0, hP (b :: l) true R0, ?_, .inl ⟨_, rfl⟩⟩
        have hs2 : decide (0 ≤ Go.Lib.indexByte signs b) = true := by rw [hs]; exact hc
        clear hs hc hp
        cases R0
        all_goals
          simp only [hP] at ht ⊢
          refine fnL_run rfl N84 Try.func84 U84 ?_; have o := o84; simp only [OE, opsR, cqR, subR, chi, Try.f84] at o
          (try simp (maxSteps := 4000000) (disch := first | assumption | omega) only [go_sem, *, ht, hi, hs2, hx, ht3, e2, Int.le_refl, Int.toNat_one, Int.toNat_zero, Nat.sub_zero, List.length_append, o, ↓bin_eqI, ↓bin_neI, Nat.reduceAdd, Nat.reduceSub, Nat.reduceMul, Nat.reduceBEq, Nat.reduceLeDiff, Nat.reduceLT, Nat.reduceDiv, Nat.reduceMod]); repeat' ((first | with_reducible first | refine caK (fun hb => ?_) fun hb => ?_ | refine caG (fun hb => ?_) fun hb => ?_ | refine caP (fun hb => ?_) fun hb => ?_ | refine caH (fun hb => ?_) fun hb => ?_ | refine caQ (fun hb => ?_) fun hb => ?_ | refine ite_cases (fun hb => ?_) fun hb => ?_ | rw [drwK_ok rfl]) <;> try simp (maxSteps := 4000000) (disch := first | assumption | omega) only [go_sem, *, ht, hi, hs2, hx, ht3, e2, Int.le_refl, Int.toNat_one, Int.toNat_zero, Nat.sub_zero, List.length_append, o, ↓bin_eqI, ↓bin_neI, Nat.reduceAdd, Nat.reduceSub, Nat.reduceMul, Nat.reduceBEq, Nat.reduceLeDiff, Nat.reduceLT, Nat.reduceDiv, Nat.reduceMod])
      · simp only [if_neg hc]
        refine ⟨R0.length, R0 ++ [row 1 [b] []], ?_, rfl, [b], rfl, rfl⟩
        have hs2 : decide (0 ≤ Go.Lib.indexByte signs b) = false := by rw [hs]; simpa [spec] using hc
        clear hs hc
        cases R0
        all_goals
          simp only [hP, hQ] at ht hp ⊢
          refine fnL_run rfl N84 Try.func84 U84 ?_; have o := o84; simp only [OE, opsR, cqR, subR, chi, Try.f84] at o
          (try simp (maxSteps := 4000000) (disch := first | assumption | omega) only [go_sem, *, ht, hi, hs2, hx, hp, ht3, e2, Int.le_refl, Int.toNat_one, Int.toNat_zero, Nat.sub_zero, List.length_append, o, ↓bin_eqI, ↓bin_neI, Nat.reduceAdd, Nat.reduceSub, Nat.reduceMul, Nat.reduceBEq, Nat.reduceLeDiff, Nat.reduceLT, Nat.reduceDiv, Nat.reduceMod]); repeat' ((first | with_reducible first | refine caK (fun hb => ?_) fun hb => ?_ | refine caG (fun hb => ?_) fun hb => ?_ | refine caP (fun hb => ?_) fun hb => ?_ | refine caH (fun hb => ?_) fun hb => ?_ | refine caQ (fun hb => ?_) fun hb => ?_ | refine ite_cases (fun hb => ?_) fun hb => ?_ | rw [drwK_ok rfl]) <;> try simp (maxSteps := 4000000) (disch := first | assumption | omega) only [go_sem, *, ht, hi, hs2, hx, hp, ht3, e2, Int.le_refl, Int.toNat_one, Int.toNat_zero, Nat.sub_zero, List.length_append, o, ↓bin_eqI, ↓bin_neI, Nat.reduceAdd, Nat.reduceSub, Nat.reduceMul, Nat.reduceBEq, Nat.reduceLeDiff, Nat.reduceLT, Nat.reduceDiv, Nat.reduceMod])
end
end Go.Vsi
