/- What the functions of the program, of the reference and of the law do (a part of it). -/
import Derived.Test.YtaambigpdmnncaaP9
namespace Go.Vsi
open Go.Proofs
noncomputable section
set_option maxRecDepth 100000
set_option maxHeartbeats 4000000
set_option linter.unusedSimpArgs false
set_option linter.unusedVariables false
attribute [local go_sem] List.isEmpty_nil Bool.true_or Bool.and_true Bool.and_self Bool.false_eq_true Bool.not_true Bool.not_false List.set_cons_zero List.set_cons_succ frzSt wantedA evA constW ofVal plain oneOf noUp toVal cellVal putA startA List.length_cons List.length_nil List.map_cons List.map_nil List.replicate List.cons_append List.nil_append List.getElem?_cons_succ List.getElem?_cons_zero List.getElem?_toArray List.set upd Option.bind resA resOne giveA seenOf idsAt reach renH renW renV renS renB idsW idsV idsS frzW frzV frzS List.filter_nil List.range_zero List.flatMap_nil List.flatMap_cons List.append_nil List.range List.range.loop sliceLen intV List.length_map one partA ordOf canon junkBut List.elem_cons List.elem_nil Bool.false_or Bool.or_false Bool.or_true cond_true cond_false firstReg evL opTmps footA cut callOk List.all_nil List.all_cons Op.operands Array.toList List.filterMap_cons List.filterMap_nil lendCall ownCall lendVs lendV lendS plainW plainV plainS List.zipIdx_nil hpOf Array.toList_map idsB natBle beq_self_eq_true Int.toNat_natCast Option.map_some Option.map_none ix cellsV Nat.zero_add List.any_nil List.any_cons List.take_zero List.take_succ_cons List.take_nil List.drop_succ_cons List.drop_zero List.drop_nil toD toDs List.filter_cons Nat.zero_le Nat.le_refl frzH ite_true ite_false if_true if_false stpO_some opsO_nil opsO_cons stpD_some nthD_some drawO_nil drawO_cons decTrue decFalse callA natBeq decT decF B_size B_mk B_empty B_append B_extract decide_eq_true_eq Bool.not_eq_true' decide_eq_false_iff_not Bool.and_eq_true Bool.or_eq_true boundsA sliceA B_toList Bool.and_false Bool.false_and Bool.true_and backOf List.zipIdx_cons Option.getD_some Option.getD_none Nat.sub_self fillA rowsOf toRows List.flatten_cons List.flatten_nil appendA sliceRows lendSs capPtr opO_pick opO_move opO_assign opO_extract opO_nilCheck opO_unOp opO_binOp opO_convert opO_index opO_field opO_alloc opO_box opO_build opO_buildSlice opO_makeSlice opO_load opO_store opO_fieldAddr opO_indexAddr opO_slice opO_makeFunc opO_builtin opO_fn regK_some lopK_some lopK_ite map_get endA condK_true condK_false grdO_true grdO_false grdD_true grdD_false pickO_true pickO_false if_pos if_neg eqI_self eqI_t eqI_f true_and and_true and_self not_true_eq_false not_false_eq_true Bool.not_not Go.Call.operands closedB List.all_append List.filterMap_append Array.toList_append List.flatMap_append Bool.or_self List.getElem?_nil Bool.true_beq Bool.false_beq G59 I3 S3 C3 A3 B3 Try.underlying3 Z3 I4 S4 C4 A4 B4 Try.underlying4 Z4 I5 S5 C5 A5 B5 Try.underlying5 Z5 I9 S9 C9 A9 B9 Try.underlying9 Z9 I47 S47 C47 A47 B47 Try.underlying47 E47 Z47 I73 S73 C73 A73 B73 Try.underlying73 Z73 I80 S80 C80 A80 B80 Try.underlying80 Z80 I82 S82 C82 A82 B82 Try.underlying82 Z82 K59_4 O59_4 H61 Y61 H71 Y71 H72 Y72 R59 M59 G52 K52_2 O52_2 H59 Y59 H60 Y60 R52 M52
attribute [local go_sem ↓] ite_dec popK_nil popK_seq popK_seqE popK_seqR popK_blk popK_blkR popK_blkE endF_normal endF_ret q59_ q59_0 q59_1 q59_10 q59_100 q59_101 q59_1010 q59_10100 q59_10101 q59_1011 q59_11 q59_110 q59_111 q59_1110 q59_11100 q59_111000 q59_1110000 q59_11100000 q59_11100001 q59_111000010 q59_111000011 q59_1110001 q59_11100010 q59_111000100 q59_111000101 q59_1111 q59_11110 q59_11111 q52_ q52_0 q52_1 q52_10 q52_11 q52_110 q52_1100 q52_11000 q52_110000 q52_1100000 q52_1100001 q52_11000010 q52_11000011 q52_110001 q52_1100010 q52_11000100 q52_11000101 q52_111 q52_1110 q52_1111 bin_add bin_sub bin_mul bin_lss bin_leq bin_gtr bin_geq un_not min_int max_int wrap64' wrap_u8 wrap_i32 wrap64_byte wrap8_byte wrap32_byte bin_eqB bin_neB bin_addB IX9 LN9
theorem row_of (k : Nat) (hT : ∀ j, j < k + 1 → PI 72 mThing 0 4 j) : PI 59 mRow 1 5 (k + 1) := by
  intro l R0 hk hR hlen h24
  have h1 := is_ok 124 l false R0
  have h2 := is_ok 41 l false R0
  simp only [show ((124 : UInt8).toNat : Int) = 124 from rfl, show ((41 : UInt8).toNat : Int) = 41 from rfl] at h1 h2
  simp only [mRow]
  cases hs : stop l with
  | true =>
    have hp := put_nil 12 [] l false R0 (by omega)
    refine ⟨R0.length, R0 ++ [row 12 [] []], ?_, rowsOK_snoc hR (by simp [pOK, textFit, kidsNum]), by simp, by simp; omega, by omega⟩
    cases l with
    | nil =>
      clear hs hT hR hlen hk
      cases R0
      all_goals
        simp only [hP, hQ] at h1 h2 hp ⊢
        refine fnL_run rfl N59 Try.func59 U59 ?_; have o := o59; simp only [OE, opsR, cqR, subR, chi, Try.f59] at o
        (try simp (maxSteps := 4000000) (disch := first | assumption | omega) only [go_sem, *, h1, h2, hp, List.length_append, o, ↓bin_eqI, ↓bin_neI, Nat.reduceAdd, Nat.reduceSub, Nat.reduceMul, Nat.reduceBEq, Nat.reduceLeDiff, Nat.reduceLT, Nat.reduceDiv, Nat.reduceMod]); repeat' ((first | with_reducible first | refine caK (fun hb => ?_) fun hb => ?_ | refine caG (fun hb => ?_) fun hb => ?_ | refine caP (fun hb => ?_) fun hb => ?_ | refine caH (fun hb => ?_) fun hb => ?_ | refine caQ (fun hb => ?_) fun hb => ?_ | refine ite_cases (fun hb => ?_) fun hb => ?_ | rw [drwK_ok rfl]) <;> try simp (maxSteps := 4000000) (disch := first | assumption | omega) only [go_sem, *, h1, h2, hp, List.length_append, o, ↓bin_eqI, ↓bin_neI, Nat.reduceAdd, Nat.reduceSub, Nat.reduceMul, Nat.reduceBEq, Nat.reduceLeDiff, Nat.reduceLT, Nat.reduceDiv, Nat.reduceMod])
    | cons b t =>
      have e2 : ((b :: t) = []) = False := by simp
      have hs2 : nx 124 (b :: t) = true ∨ (nx 124 (b :: t) = false ∧ nx 41 (b :: t) = true) := by
        cases hx : nx 124 (b :: t) with
        | true => exact .inl rfl
        | false => exact .inr ⟨rfl, by simpa [stop, hx] using hs⟩
      generalize nx 124 (b :: t) = n1 at h1 hs2
      generalize nx 41 (b :: t) = n2 at h2 hs2
      clear hs hT hR hlen hk
      rcases hs2 with rfl | ⟨rfl, rfl⟩ <;> cases R0
      all_goals
        simp only [hP, hQ] at h1 h2 hp ⊢
        refine fnL_run rfl N59 Try.func59 U59 ?_; have o := o59; simp only [OE, opsR, cqR, subR, chi, Try.f59] at o
        (try simp (maxSteps := 4000000) (disch := first | assumption | omega) only [go_sem, *, h1, h2, hp, e2, List.length_append, o, ↓bin_eqI, ↓bin_neI, Nat.reduceAdd, Nat.reduceSub, Nat.reduceMul, Nat.reduceBEq, Nat.reduceLeDiff, Nat.reduceLT, Nat.reduceDiv, Nat.reduceMod]); repeat' ((first | with_reducible first | refine caK (fun hb => ?_) fun hb => ?_ | refine caG (fun hb => ?_) fun hb => ?_ | refine caP (fun hb => ?_) fun hb => ?_ | refine caH (fun hb => ?_) fun hb => ?_ | refine caQ (fun hb => ?_) fun hb => ?_ | refine ite_cases (fun hb => ?_) fun hb => ?_ | rw [drwK_ok rfl]) <;> try simp (maxSteps := 4000000) (disch := first | assumption | omega) only [go_sem, *, h1, h2, hp, e2, List.length_append, o, ↓bin_eqI, ↓bin_neI, Nat.reduceAdd, Nat.reduceSub, Nat.reduceMul, Nat.reduceBEq, Nat.reduceLeDiff, Nat.reduceLT, Nat.reduceDiv, Nat.reduceMod])
  | false =>
    cases l with
    | nil => simp [stop] at hs
    | cons b t =>
      obtain ⟨n1, n2⟩ := stop_cons hs
      rw [n1] at h1
      rw [n2] at h2
      have e2 : ((b :: t) = []) = False := by simp
      have hb := hT k (by omega) (b :: t) R0 (by omega) hR (by omega) h24
      simp only
      cases hm : mThing k (b :: t) with
      | none =>
        rw [hm] at hb
        obtain ⟨w, bs, e, hbs⟩ := hb
        refine ⟨w, bs, ?_, ?_⟩
        · clear hm hR hlen hk hT hs n1 n2
          rcases hbs with ⟨l', rfl⟩ | ⟨l', R, z1, z2, rfl⟩
          · cases R0
            all_goals
              simp only [hP] at h1 h2 e ⊢
              refine fnL_run rfl N59 Try.func59 U59 ?_; have o := o59; simp only [OE, opsR, cqR, subR, chi, Try.f59] at o
              (try simp (maxSteps := 4000000) (disch := first | assumption | omega) only [go_sem, *, h1, h2, e2, e, loopC_round, o, ↓bin_eqI, ↓bin_neI, Nat.reduceAdd, Nat.reduceSub, Nat.reduceMul, Nat.reduceBEq, Nat.reduceLeDiff, Nat.reduceLT, Nat.reduceDiv, Nat.reduceMod]); repeat' ((first | with_reducible first | refine caK (fun hb => ?_) fun hb => ?_ | refine caG (fun hb => ?_) fun hb => ?_ | refine caP (fun hb => ?_) fun hb => ?_ | refine caH (fun hb => ?_) fun hb => ?_ | refine caQ (fun hb => ?_) fun hb => ?_ | refine ite_cases (fun hb => ?_) fun hb => ?_ | rw [drwK_ok rfl]) <;> try simp (maxSteps := 4000000) (disch := first | assumption | omega) only [go_sem, *, h1, h2, e2, e, loopC_round, o, ↓bin_eqI, ↓bin_neI, Nat.reduceAdd, Nat.reduceSub, Nat.reduceMul, Nat.reduceBEq, Nat.reduceLeDiff, Nat.reduceLT, Nat.reduceDiv, Nat.reduceMod])
          · cases R0
            all_goals
              simp only [hP, hQ] at h1 h2 e ⊢
              refine fnL_run rfl N59 Try.func59 U59 ?_; have o := o59; simp only [OE, opsR, cqR, subR, chi, Try.f59] at o
              (try simp (maxSteps := 4000000) (disch := first | assumption | omega) only [go_sem, *, h1, h2, e2, e, loopC_round, o, ↓bin_eqI, ↓bin_neI, Nat.reduceAdd, Nat.reduceSub, Nat.reduceMul, Nat.reduceBEq, Nat.reduceLeDiff, Nat.reduceLT, Nat.reduceDiv, Nat.reduceMod]); repeat' ((first | with_reducible first | refine caK (fun hb => ?_) fun hb => ?_ | refine caG (fun hb => ?_) fun hb => ?_ | refine caP (fun hb => ?_) fun hb => ?_ | refine caH (fun hb => ?_) fun hb => ?_ | refine caQ (fun hb => ?_) fun hb => ?_ | refine ite_cases (fun hb => ?_) fun hb => ?_ | rw [drwK_ok rfl]) <;> try simp (maxSteps := 4000000) (disch := first | assumption | omega) only [go_sem, *, h1, h2, e2, e, loopC_round, o, ↓bin_eqI, ↓bin_neI, Nat.reduceAdd, Nat.reduceSub, Nat.reduceMul, Nat.reduceBEq, Nat.reduceLeDiff, Nat.reduceLT, Nat.reduceDiv, Nat.reduceMod])
        · rcases hbs with ⟨l', h⟩ | ⟨l', R, z1, z2, h⟩
          · exact .inl ⟨l', h⟩
          · exact .inr ⟨l', R, z1, by omega, h⟩
      | some r =>
        rw [hm] at hb
        obtain ⟨a, R, e, g1, g2, g3, g4⟩ := hb
        simp only
        cases R0 with
        | nil =>
          have ih := row_loop0 k (fun j hj => hT j (by omega)) r a R (by omega) g1 g2 (by simp at g3 hlen; omega) (by omega)
          cases hml : mRowL k r with
          | some rest =>
            rw [hml] at ih
            obtain ⟨a', R', q1, q2, q3, q4, q5⟩ := ih
            refine ⟨a', R', ?_, q1, q2, by simp at g3 ⊢; omega, by simp at g4 ⊢; omega⟩
            clear q1 q2 q3 q4 g1 g2 g3 g4 hml hm hR hlen hk hT hs n1 n2
            simp only [hP, hQ] at h1 h2 e ⊢
            refine fnL_run rfl N59 Try.func59 U59 ?_; have o := o59; simp only [OE, opsR, cqR, subR, chi, Try.f59] at o
            (try simp (maxSteps := 4000000) (disch := first | assumption | omega) only [go_sem, *, h1, h2, e2, e, q5, o, ↓bin_eqI, ↓bin_neI, Nat.reduceAdd, Nat.reduceSub, Nat.reduceMul, Nat.reduceBEq, Nat.reduceLeDiff, Nat.reduceLT, Nat.reduceDiv, Nat.reduceMod]); repeat' ((first | with_reducible first | refine caK (fun hb => ?_) fun hb => ?_ | refine caG (fun hb => ?_) fun hb => ?_ | refine caP (fun hb => ?_) fun hb => ?_ | refine caH (fun hb => ?_) fun hb => ?_ | refine caQ (fun hb => ?_) fun hb => ?_ | refine ite_cases (fun hb => ?_) fun hb => ?_ | rw [drwK_ok rfl]) <;> try simp (maxSteps := 4000000) (disch := first | assumption | omega) only [go_sem, *, h1, h2, e2, e, q5, o, ↓bin_eqI, ↓bin_neI, Nat.reduceAdd, Nat.reduceSub, Nat.reduceMul, Nat.reduceBEq, Nat.reduceLeDiff, Nat.reduceLT, Nat.reduceDiv, Nat.reduceMod])
          | none =>
            rw [hml] at ih
            obtain ⟨w, l', R', q1, q2, q5⟩ := ih
            refine ⟨w, _, ?_, .inr ⟨l', R', q1, by simp at g3 ⊢; omega, rfl⟩⟩
            clear q1 q2 g1 g2 g3 g4 hml hm hR hlen hk hT hs n1 n2
            simp only [hP, hQ] at h1 h2 e ⊢
            refine fnL_run rfl N59 Try.func59 U59 ?_; have o := o59; simp only [OE, opsR, cqR, subR, chi, Try.f59] at o
            (try simp (maxSteps := 4000000) (disch := first | assumption | omega) only [go_sem, *, h1, h2, e2, e, q5, o, ↓bin_eqI, ↓bin_neI, Nat.reduceAdd, Nat.reduceSub, Nat.reduceMul, Nat.reduceBEq, Nat.reduceLeDiff, Nat.reduceLT, Nat.reduceDiv, Nat.reduceMod]); repeat' ((first | with_reducible first | refine caK (fun hb => ?_) fun hb => ?_ | refine caG (fun hb => ?_) fun hb => ?_ | refine caP (fun hb => ?_) fun hb => ?_ | refine caH (fun hb => ?_) fun hb => ?_ | refine caQ (fun hb => ?_) fun hb => ?_ | refine ite_cases (fun hb => ?_) fun hb => ?_ | rw [drwK_ok rfl]) <;> try simp (maxSteps := 4000000) (disch := first | assumption | omega) only [go_sem, *, h1, h2, e2, e, q5, o, ↓bin_eqI, ↓bin_neI, Nat.reduceAdd, Nat.reduceSub, Nat.reduceMul, Nat.reduceBEq, Nat.reduceLeDiff, Nat.reduceLT, Nat.reduceDiv, Nat.reduceMod])
        | cons p ps =>
          have ih := row_loop1 k (fun j hj => hT j (by omega)) r a R (by omega) g1 g2 (by simp at g3 hlen; omega) (by omega)
          cases hml : mRowL k r with
          | some rest =>
            rw [hml] at ih
            obtain ⟨a', R', q1, q2, q3, q4, q5⟩ := ih
            refine ⟨a', R', ?_, q1, q2, by simp at g3 ⊢; omega, by simp at g4 ⊢; omega⟩
            clear q1 q2 q3 q4 g1 g2 g3 g4 hml hm hR hlen hk hT hs n1 n2
            simp only [hP, hQ] at h1 h2 e ⊢
            refine fnL_run rfl N59 Try.func59 U59 ?_; have o := o59; simp only [OE, opsR, cqR, subR, chi, Try.f59] at o
            (try simp (maxSteps := 4000000) (disch := first | assumption | omega) only [go_sem, *, h1, h2, e2, e, q5, o, ↓bin_eqI, ↓bin_neI, Nat.reduceAdd, Nat.reduceSub, Nat.reduceMul, Nat.reduceBEq, Nat.reduceLeDiff, Nat.reduceLT, Nat.reduceDiv, Nat.reduceMod]); repeat' ((first | with_reducible first | refine caK (fun hb => ?_) fun hb => ?_ | refine caG (fun hb => ?_) fun hb => ?_ | refine caP (fun hb => ?_) fun hb => ?_ | refine caH (fun hb => ?_) fun hb => ?_ | refine caQ (fun hb => ?_) fun hb => ?_ | refine ite_cases (fun hb => ?_) fun hb => ?_ | rw [drwK_ok rfl]) <;> try simp (maxSteps := 4000000) (disch := first | assumption | omega) only [go_sem, *, h1, h2, e2, e, q5, o, ↓bin_eqI, ↓bin_neI, Nat.reduceAdd, Nat.reduceSub, Nat.reduceMul, Nat.reduceBEq, Nat.reduceLeDiff, Nat.reduceLT, Nat.reduceDiv, Nat.reduceMod])
          | none =>
            rw [hml] at ih
            obtain ⟨w, l', R', q1, q2, q5⟩ := ih
            refine ⟨w, _, ?_, .inr ⟨l', R', q1, by simp at g3 ⊢; omega, rfl⟩⟩
            clear q1 q2 g1 g2 g3 g4 hml hm hR hlen hk hT hs n1 n2
            simp only [hP, hQ] at h1 h2 e ⊢
            refine fnL_run rfl N59 Try.func59 U59 ?_; have o := o59; simp only [OE, opsR, cqR, subR, chi, Try.f59] at o
            (try simp (maxSteps := 4000000) (disch := first | assumption | omega) only [go_sem, *, h1, h2, e2, e, q5, o, ↓bin_eqI, ↓bin_neI, Nat.reduceAdd, Nat.reduceSub, Nat.reduceMul, Nat.reduceBEq, Nat.reduceLeDiff, Nat.reduceLT, Nat.reduceDiv, Nat.reduceMod]); repeat' ((first | with_reducible first | refine caK (fun hb => ?_) fun hb => ?_ | refine caG (fun hb => ?_) fun hb => ?_ | refine caP (fun hb => ?_) fun hb => ?_ | refine caH (fun hb => ?_) fun hb => ?_ | refine caQ (fun hb => ?_) fun hb => ?_ | refine ite_cases (fun hb => ?_) fun hb => ?_ | rw [drwK_ok rfl]) <;> try simp (maxSteps := 4000000) (disch := first | assumption | omega) only [go_sem, *, h1, h2, e2, e, q5, o, ↓bin_eqI, ↓bin_neI, Nat.reduceAdd, Nat.reduceSub, Nat.reduceMul, Nat.reduceBEq, Nat.reduceLeDiff, Nat.reduceLT, Nat.reduceDiv, Nat.reduceMod])
theorem alt_loop0 : ∀ (k : Nat), (∀ j, j < k → PI 59 mRow 1 5 j) → ∀ (l : List UInt8) (a : Nat) (R : List (List D)), 6 * l.length + 1 ≤ k → RowsOK R → a < R.length → R.length + 2 * l.length ≤ 59 → l.length ≤ 24 →
    match mAltL k l with
    | some rest => ∃ (a' : Nat) (R' : List (List D)), RowsOK R' ∧ a' < R'.length ∧ (R.length ≤ R'.length ∧ R'.length + 2 * rest.length ≤ R.length + 2 * l.length) ∧ rest.length ≤ l.length ∧
      loopC Try.prog T (fnL Try.prog T L0) 52 (cq g52 [0, 0, 0, 1, 1]) ⟨[.one (.c (.ptr 0 0 0)), J, J, .one (.c (.d (.v (.int .i64 ((a : Int)))))), J, J, J, J, J, J, J, J, J, J, J, J, J, J, J, J, J, J, J, J], hpOf [some (.var [.d (.v (.string (B (l)))), .arr 1 0 R.length, .d (.v (.bool (false)))]), some (.arr 3 R)], 2, 1⟩ = some (.exit 0, ⟨[J, J, J, .one (.c (.d (.v (.int .i64 ((a' : Int)))))), J, J, J, J, J, J, J, J, J, J, J, J, J, J, J, J, J, J, J, J], hpOf [some (.var [.d (.v (.string (B (rest)))), .arr 1 0 R'.length, .d (.v (.bool (false)))]), some (.arr 3 R')], 2, 1⟩)
    | none => ∃ (w : Int) (l' : List UInt8) (R' : List (List D)), 1 ≤ R'.length ∧ R'.length ≤ R.length + 2 * l.length + 2 ∧
      loopC Try.prog T (fnL Try.prog T L0) 52 (cq g52 [0, 0, 0, 1, 1]) ⟨[.one (.c (.ptr 0 0 0)), J, J, .one (.c (.d (.v (.int .i64 ((a : Int)))))), J, J, J, J, J, J, J, J, J, J, J, J, J, J, J, J, J, J, J, J], hpOf [some (.var [.d (.v (.string (B (l)))), .arr 1 0 R.length, .d (.v (.bool (false)))]), some (.arr 3 R)], 2, 1⟩ = some (.exit 0, ⟨[J, J, J, .one (.c (.d (.v (.int .i64 (w))))), J, J, J, J, J, J, J, J, J, J, J, J, J, J, J, J, J, J, J, J], hpOf [some (.var [.d (.v (.string (B (l')))), .arr 1 0 R'.length, .d (.v (.bool (true)))]), some (.arr 3 R')], 2, 1⟩)
  | 0, _, l, a, R, hk, _, _, _, _ => by omega
  | k + 1, hT, l, a, R, hk, hR, ha, hlen, h24 => by
    have h1 := take_ne 124 l false R (by omega)
    simp only [show ((124 : UInt8).toNat : Int) = 124 from rfl] at h1
    simp only [mAltL]
    cases hs : nx 124 l with
    | false =>
      refine ⟨a, R, hR, ha, by omega, by omega, ?_⟩
      rw [hs] at h1
      simp only [adv] at h1
      clear hs hT hR
      have o := o52_11000; simp only [OE, opsR, cqR, subR, chi, Try.f52] at o
      rw [loopC_round]
      (try simp (maxSteps := 4000000) (disch := first | assumption | omega) only [go_sem, *, h1, o, ↓bin_eqI, ↓bin_neI, Nat.reduceAdd, Nat.reduceSub, Nat.reduceMul, Nat.reduceBEq, Nat.reduceLeDiff, Nat.reduceLT, Nat.reduceDiv, Nat.reduceMod]); repeat' ((first | with_reducible first | refine caK (fun hb => ?_) fun hb => ?_ | refine caG (fun hb => ?_) fun hb => ?_ | refine caP (fun hb => ?_) fun hb => ?_ | refine caH (fun hb => ?_) fun hb => ?_ | refine caQ (fun hb => ?_) fun hb => ?_ | refine ite_cases (fun hb => ?_) fun hb => ?_ | rw [drwK_ok rfl]) <;> try simp (maxSteps := 4000000) (disch := first | assumption | omega) only [go_sem, *, h1, o, ↓bin_eqI, ↓bin_neI, Nat.reduceAdd, Nat.reduceSub, Nat.reduceMul, Nat.reduceBEq, Nat.reduceLeDiff, Nat.reduceLT, Nat.reduceDiv, Nat.reduceMod])
    | true =>
      have hd := nx_drop hs
      rw [hs] at h1
      simp only [adv] at h1
      obtain ⟨p, ps, rfl⟩ : ∃ p ps, R = p :: ps := by
        cases R with
        | nil => simp at ha
        | cons p ps => exact ⟨p, ps, rfl⟩
      have hb := hT k (by omega) (l.drop 1) (p :: ps) (by omega) hR (by omega) (by omega)
      generalize l.drop 1 = l1 at h1 hd hb ⊢
      simp only
      cases hm : mRow k l1 with
      | none =>
        rw [hm] at hb
        obtain ⟨w, bs, e, hbs⟩ := hb
        rcases hbs with ⟨l', rfl⟩ | ⟨l', R', z1, z2, rfl⟩
        · have hp := put_kids 6 [] [(a : Int), w] (by simp) l' true (p :: ps) (ps.length + 1) rfl ⟨by omega, by simp at hlen; omega⟩
          refine ⟨((ps.length + 1 : Nat) : Int), l', (p :: ps) ++ [row 6 [] [(a : Int), w]], by simp, by simp; omega, ?_⟩
          clear hs hT hR hm hd
          simp only [rI, List.map_cons, List.map_nil, List.length_cons, List.length_nil, Nat.zero_add, Nat.reduceAdd, hP] at h1 hp e ⊢
          have o := o52_11000; simp only [OE, opsR, cqR, subR, chi, Try.f52] at o
          rw [loopC_round]
          (try simp (maxSteps := 4000000) (disch := first | assumption | omega) only [go_sem, *, h1, e, hp, loopC_round, List.length_append, o, ↓bin_eqI, ↓bin_neI, Nat.reduceAdd, Nat.reduceSub, Nat.reduceMul, Nat.reduceBEq, Nat.reduceLeDiff, Nat.reduceLT, Nat.reduceDiv, Nat.reduceMod]); repeat' ((first | with_reducible first | refine caK (fun hb => ?_) fun hb => ?_ | refine caG (fun hb => ?_) fun hb => ?_ | refine caP (fun hb => ?_) fun hb => ?_ | refine caH (fun hb => ?_) fun hb => ?_ | refine caQ (fun hb => ?_) fun hb => ?_ | refine ite_cases (fun hb => ?_) fun hb => ?_ | rw [drwK_ok rfl]) <;> try simp (maxSteps := 4000000) (disch := first | assumption | omega) only [go_sem, *, h1, e, hp, loopC_round, List.length_append, o, ↓bin_eqI, ↓bin_neI, Nat.reduceAdd, Nat.reduceSub, Nat.reduceMul, Nat.reduceBEq, Nat.reduceLeDiff, Nat.reduceLT, Nat.reduceDiv, Nat.reduceMod])
        · have hp := put_kids 6 [] [(a : Int), w] (by simp) l' true R' R'.length rfl ⟨by omega, by omega⟩
          refine ⟨((R'.length : Nat) : Int), l', R' ++ [row 6 [] [(a : Int), w]], by simp, by simp at z2 ⊢; omega, ?_⟩
          clear hs hT hR hm hd
          simp only [rI, List.map_cons, List.map_nil, List.length_cons, List.length_nil, Nat.zero_add, Nat.reduceAdd, hP, hQ] at h1 hp e ⊢
          have o := o52_11000; simp only [OE, opsR, cqR, subR, chi, Try.f52] at o
          rw [loopC_round]
          (try simp (maxSteps := 4000000) (disch := first | assumption | omega) only [go_sem, *, h1, e, hp, loopC_round, List.length_append, o, ↓bin_eqI, ↓bin_neI, Nat.reduceAdd, Nat.reduceSub, Nat.reduceMul, Nat.reduceBEq, Nat.reduceLeDiff, Nat.reduceLT, Nat.reduceDiv, Nat.reduceMod]); repeat' ((first | with_reducible first | refine caK (fun hb => ?_) fun hb => ?_ | refine caG (fun hb => ?_) fun hb => ?_ | refine caP (fun hb => ?_) fun hb => ?_ | refine caH (fun hb => ?_) fun hb => ?_ | refine caQ (fun hb => ?_) fun hb => ?_ | refine ite_cases (fun hb => ?_) fun hb => ?_ | rw [drwK_ok rfl]) <;> try simp (maxSteps := 4000000) (disch := first | assumption | omega) only [go_sem, *, h1, e, hp, loopC_round, List.length_append, o, ↓bin_eqI, ↓bin_neI, Nat.reduceAdd, Nat.reduceSub, Nat.reduceMul, Nat.reduceBEq, Nat.reduceLeDiff, Nat.reduceLT, Nat.reduceDiv, Nat.reduceMod])
      | some r =>
        rw [hm] at hb
        obtain ⟨a2, R2, e, g1, g2, g3, g4⟩ := hb
        have ih := alt_loop0 k (fun j hj => hT j (by omega)) r R2.length (R2 ++ [row 6 [] [(a : Int), (a2 : Int)]]) (by omega) (rowsOK_snoc g1 (kids_ok (.inr rfl) (by omega) g2)) (by simp) (by simp; omega) (by omega)
        have hp := put_kids 6 [] [(a : Int), (a2 : Int)] (by simp) r false R2 R2.length rfl ⟨by omega, by omega⟩
        clear hs hT hR hm
        simp only
        cases hml : mAltL k r with
        | some rest =>
          rw [hml] at ih
          obtain ⟨a', R', q1, q2, q3, q4, q5⟩ := ih
          refine ⟨a', R', q1, q2, by simp at q3 g3 ⊢; omega, by omega, ?_⟩
          clear q1 q2 q3 q4 g1 g2 g3 g4 hml hd
          simp only [rI, List.map_cons, List.map_nil, List.length_cons, List.length_nil, Nat.zero_add, Nat.reduceAdd, hP, hQ, List.length_append] at h1 hp e q5 ⊢
          rw [← q5]
          clear q5
          have o := o52_11000; simp only [OE, opsR, cqR, subR, chi, Try.f52] at o
          rw [loopC_round]
          (try simp (maxSteps := 4000000) (disch := first | assumption | omega) only [go_sem, *, h1, e, hp, List.length_append, o, ↓bin_eqI, ↓bin_neI, Nat.reduceAdd, Nat.reduceSub, Nat.reduceMul, Nat.reduceBEq, Nat.reduceLeDiff, Nat.reduceLT, Nat.reduceDiv, Nat.reduceMod]); repeat' ((first | with_reducible first | refine caK (fun hb => ?_) fun hb => ?_ | refine caG (fun hb => ?_) fun hb => ?_ | refine caP (fun hb => ?_) fun hb => ?_ | refine caH (fun hb => ?_) fun hb => ?_ | refine caQ (fun hb => ?_) fun hb => ?_ | refine ite_cases (fun hb => ?_) fun hb => ?_ | rw [drwK_ok rfl]) <;> try simp (maxSteps := 4000000) (disch := first | assumption | omega) only [go_sem, *, h1, e, hp, List.length_append, o, ↓bin_eqI, ↓bin_neI, Nat.reduceAdd, Nat.reduceSub, Nat.reduceMul, Nat.reduceBEq, Nat.reduceLeDiff, Nat.reduceLT, Nat.reduceDiv, Nat.reduceMod])
        | none =>
          rw [hml] at ih
          obtain ⟨w, l', R', q1, q2, q5⟩ := ih
          refine ⟨w, l', R', q1, by simp at q2 g3 ⊢; omega, ?_⟩
          clear q1 q2 g1 g2 g3 g4 hml hd
          simp only [rI, List.map_cons, List.map_nil, List.length_cons, List.length_nil, Nat.zero_add, Nat.reduceAdd, hP, hQ, List.length_append] at h1 hp e q5 ⊢
          rw [← q5]
          clear q5
          have o := o52_11000; simp only [OE, opsR, cqR, subR, chi, Try.f52] at o
          rw [loopC_round]
          (try simp (maxSteps := 4000000) (disch := first | assumption | omega) only [go_sem, *, h1, e, hp, List.length_append, o, ↓bin_eqI, ↓bin_neI, Nat.reduceAdd, Nat.reduceSub, Nat.reduceMul, Nat.reduceBEq, Nat.reduceLeDiff, Nat.reduceLT, Nat.reduceDiv, Nat.reduceMod]); repeat' ((first | with_reducible first | refine caK (fun hb => ?_) fun hb => ?_ | refine caG (fun hb => ?_) fun hb => ?_ | refine caP (fun hb => ?_) fun hb => ?_ | refine caH (fun hb => ?_) fun hb => ?_ | refine caQ (fun hb => ?_) fun hb => ?_ | refine ite_cases (fun hb => ?_) fun hb => ?_ | rw [drwK_ok rfl]) <;> try simp (maxSteps := 4000000) (disch := first | assumption | omega) only [go_sem, *, h1, e, hp, List.length_append, o, ↓bin_eqI, ↓bin_neI, Nat.reduceAdd, Nat.reduceSub, Nat.reduceMul, Nat.reduceBEq, Nat.reduceLeDiff, Nat.reduceLT, Nat.reduceDiv, Nat.reduceMod])
theorem alt_loop1 : ∀ (k : Nat), (∀ j, j < k → PI 59 mRow 1 5 j) → ∀ (l : List UInt8) (a : Nat) (R : List (List D)), 6 * l.length + 1 ≤ k → RowsOK R → a < R.length → R.length + 2 * l.length ≤ 59 → l.length ≤ 24 →
    match mAltL k l with
    | some rest => ∃ (a' : Nat) (R' : List (List D)), RowsOK R' ∧ a' < R'.length ∧ (R.length ≤ R'.length ∧ R'.length + 2 * rest.length ≤ R.length + 2 * l.length) ∧ rest.length ≤ l.length ∧
      loopC Try.prog T (fnL Try.prog T L0) 52 (cq g52 [0, 0, 0, 1, 1]) ⟨[.one (.c (.ptr 0 0 0)), J, J, .one (.c (.d (.v (.int .i64 ((a : Int)))))), J, J, J, J, J, J, J, J, J, J, J, J, J, J, J, J, J, J, J, J], hpOf [some (.var [.d (.v (.string (B (l)))), .arr 2 0 R.length, .d (.v (.bool (false)))]), none, some (.arr 3 R)], 3, 2⟩ = some (.exit 0, ⟨[J, J, J, .one (.c (.d (.v (.int .i64 ((a' : Int)))))), J, J, J, J, J, J, J, J, J, J, J, J, J, J, J, J, J, J, J, J], hpOf [some (.var [.d (.v (.string (B (rest)))), .arr 2 0 R'.length, .d (.v (.bool (false)))]), none, some (.arr 3 R')], 3, 2⟩)
    | none => ∃ (w : Int) (l' : List UInt8) (R' : List (List D)), 1 ≤ R'.length ∧ R'.length ≤ R.length + 2 * l.length + 2 ∧
      loopC Try.prog T (fnL Try.prog T L0) 52 (cq g52 [0, 0, 0, 1, 1]) ⟨[.one (.c (.ptr 0 0 0)), J, J, .one (.c (.d (.v (.int .i64 ((a : Int)))))), J, J, J, J, J, J, J, J, J, J, J, J, J, J, J, J, J, J, J, J], hpOf [some (.var [.d (.v (.string (B (l)))), .arr 2 0 R.length, .d (.v (.bool (false)))]), none, some (.arr 3 R)], 3, 2⟩ = some (.exit 0, ⟨[J, J, J, .one (.c (.d (.v (.int .i64 (w))))), J, J, J, J, J, J, J, J, J, J, J, J, J, J, J, J, J, J, J, J], hpOf [some (.var [.d (.v (.string (B (l')))), .arr 2 0 R'.length, .d (.v (.bool (true)))]), none, some (.arr 3 R')], 3, 2⟩)
  | 0, _, l, a, R, hk, _, _, _, _ => by omega
  | k + 1, hT, l, a, R, hk, hR, ha, hlen, h24 => by
    have h1 := take_ne 124 l false R (by omega)
    simp only [show ((124 : UInt8).toNat : Int) = 124 from rfl] at h1
    simp only [mAltL]
    cases hs : nx 124 l with
    | false =>
      refine ⟨a, R, hR, ha, by omega, by omega, ?_⟩
      rw [hs] at h1
      simp only [adv] at h1
      clear hs hT hR
      have o := o52_11000; simp only [OE, opsR, cqR, subR, chi, Try.f52] at o
      rw [loopC_round]
      (try simp (maxSteps := 4000000) (disch := first | assumption | omega) only [go_sem, *, h1, o, ↓bin_eqI, ↓bin_neI, Nat.reduceAdd, Nat.reduceSub, Nat.reduceMul, Nat.reduceBEq, Nat.reduceLeDiff, Nat.reduceLT, Nat.reduceDiv, Nat.reduceMod]); repeat' ((first | with_reducible first | refine caK (fun hb => ?_) fun hb => ?_ | refine caG (fun hb => ?_) fun hb => ?_ | refine caP (fun hb => ?_) fun hb => ?_ | refine caH (fun hb => ?_) fun hb => ?_ | refine caQ (fun hb => ?_) fun hb => ?_ | refine ite_cases (fun hb => ?_) fun hb => ?_ | rw [drwK_ok rfl]) <;> try simp (maxSteps := 4000000) (disch := first | assumption | omega) only [go_sem, *, h1, o, ↓bin_eqI, ↓bin_neI, Nat.reduceAdd, Nat.reduceSub, Nat.reduceMul, Nat.reduceBEq, Nat.reduceLeDiff, Nat.reduceLT, Nat.reduceDiv, Nat.reduceMod])
    | true =>
      have hd := nx_drop hs
      rw [hs] at h1
      simp only [adv] at h1
      obtain ⟨p, ps, rfl⟩ : ∃ p ps, R = p :: ps := by
        cases R with
        | nil => simp at ha
        | cons p ps => exact ⟨p, ps, rfl⟩
      have hb := hT k (by omega) (l.drop 1) (p :: ps) (by omega) hR (by omega) (by omega)
      generalize l.drop 1 = l1 at h1 hd hb ⊢
      simp only
      cases hm : mRow k l1 with
      | none =>
        rw [hm] at hb
        obtain ⟨w, bs, e, hbs⟩ := hb
        rcases hbs with ⟨l', rfl⟩ | ⟨l', R', z1, z2, rfl⟩
        · have hp := put_kids 6 [] [(a : Int), w] (by simp) l' true (p :: ps) (ps.length + 1) rfl ⟨by omega, by simp at hlen; omega⟩
          refine ⟨((ps.length + 1 : Nat) : Int), l', (p :: ps) ++ [row 6 [] [(a : Int), w]], by simp, by simp; omega, ?_⟩
          clear hs hT hR hm hd
          simp only [rI, List.map_cons, List.map_nil, List.length_cons, List.length_nil, Nat.zero_add, Nat.reduceAdd, hP] at h1 hp e ⊢
          have o := o52_11000; simp only [OE, opsR, cqR, subR, chi, Try.f52] at o
          rw [loopC_round]
          (try simp (maxSteps := 4000000) (disch := first | assumption | omega) only [go_sem, *, h1, e, hp, loopC_round, List.length_append, o, ↓bin_eqI, ↓bin_neI, Nat.reduceAdd, Nat.reduceSub, Nat.reduceMul, Nat.reduceBEq, Nat.reduceLeDiff, Nat.reduceLT, Nat.reduceDiv, Nat.reduceMod]); repeat' ((first | with_reducible first | refine caK (fun hb => ?_) fun hb => ?_ | refine caG (fun hb => ?_) fun hb => ?_ | refine caP (fun hb => ?_) fun hb => ?_ | refine caH (fun hb => ?_) fun hb => ?_ | refine caQ (fun hb => ?_) fun hb => ?_ | refine ite_cases (fun hb => ?_) fun hb => ?_ | rw [drwK_ok rfl]) <;> try simp (maxSteps := 4000000) (disch := first | assumption | omega) only [go_sem, *, h1, e, hp, loopC_round, List.length_append, o, ↓bin_eqI, ↓bin_neI, Nat.reduceAdd, Nat.reduceSub, Nat.reduceMul, Nat.reduceBEq, Nat.reduceLeDiff, Nat.reduceLT, Nat.reduceDiv, Nat.reduceMod])
        · have hp := put_kids 6 [] [(a : Int), w] (by simp) l' true R' R'.length rfl ⟨by omega, by omega⟩
          refine ⟨((R'.length : Nat) : Int), l', R' ++ [row 6 [] [(a : Int), w]], by simp, by simp at z2 ⊢; omega, ?_⟩
          clear hs hT hR hm hd
          simp only [rI, List.map_cons, List.map_nil, List.length_cons, List.length_nil, Nat.zero_add, Nat.reduceAdd, hP, hQ] at h1 hp e ⊢
          have o := o52_11000; simp only [OE, opsR, cqR, subR, chi, Try.f52] at o
          rw [loopC_round]
          (try simp (maxSteps := 4000000) (disch := first | assumption | omega) only [go_sem, *, h1, e, hp, loopC_round, List.length_append, o, ↓bin_eqI, ↓bin_neI, Nat.reduceAdd, Nat.reduceSub, Nat.reduceMul, Nat.reduceBEq, Nat.reduceLeDiff, Nat.reduceLT, Nat.reduceDiv, Nat.reduceMod]); repeat' ((first | with_reducible first | refine caK (fun hb => ?_) fun hb => ?_ | refine caG (fun hb => ?_) fun hb => ?_ | refine caP (fun hb => ?_) fun hb => ?_ | refine caH (fun hb => ?_) fun hb => ?_ | refine caQ (fun hb => ?_) fun hb => ?_ | refine ite_cases (fun hb => ?_) fun hb => ?_ | rw [drwK_ok rfl]) <;> try simp (maxSteps := 4000000) (disch := first | assumption | omega) only [go_sem, *, h1, e, hp, loopC_round, List.length_append, o, ↓bin_eqI, ↓bin_neI, Nat.reduceAdd, Nat.reduceSub, Nat.reduceMul, Nat.reduceBEq, Nat.reduceLeDiff, Nat.reduceLT, Nat.reduceDiv, Nat.reduceMod])
      | some r =>
        rw [hm] at hb
        obtain ⟨a2, R2, e, g1, g2, g3, g4⟩ := hb
        have ih := alt_loop1 k (fun j hj => hT j (by omega)) r R2.length (R2 ++ [row 6 [] [(a : Int), (a2 : Int)]]) (by omega) (rowsOK_snoc g1 (kids_ok (.inr rfl) (by omega) g2)) (by simp) (by simp; omega) (by omega)
        have hp := put_kids 6 [] [(a : Int), (a2 : Int)] (by simp) r false R2 R2.length rfl ⟨by omega, by omega⟩
        clear hs hT hR hm
        simp only
        cases hml : mAltL k r with
        | some rest =>
          rw [hml] at ih
          obtain ⟨a', R', q1, q2, q3, q4, q5⟩ := ih
          refine ⟨a', R', q1, q2, by simp at q3 g3 ⊢; omega, by omega, ?_⟩
          clear q1 q2 q3 q4 g1 g2 g3 g4 hml hd
          simp only [rI, List.map_cons, List.map_nil, List.length_cons, List.length_nil, Nat.zero_add, Nat.reduceAdd, hP, hQ, List.length_append] at h1 hp e q5 ⊢
          rw [← q5]
          clear q5
          have o := o52_11000; simp only [OE, opsR, cqR, subR, chi, Try.f52] at o
          rw [loopC_round]
          (try simp (maxSteps := 4000000) (disch := first | assumption | omega) only [go_sem, *, h1, e, hp, List.length_append, o, ↓bin_eqI, ↓bin_neI, Nat.reduceAdd, Nat.reduceSub, Nat.reduceMul, Nat.reduceBEq, Nat.reduceLeDiff, Nat.reduceLT, Nat.reduceDiv, Nat.reduceMod]); repeat' ((first | with_reducible first | refine caK (fun hb => ?_) fun hb => ?_ | refine caG (fun hb => ?_) fun hb => ?_ | refine caP (fun hb => ?_) fun hb => ?_ | refine caH (fun hb => ?_) fun hb => ?_ | refine caQ (fun hb => ?_) fun hb => ?_ | refine ite_cases (fun hb => ?_) fun hb => ?_ | rw [drwK_ok rfl]) <;> try simp (maxSteps := 4000000) (disch := first | assumption | omega) only [go_sem, *, h1, e, hp, List.length_append, o, ↓bin_eqI, ↓bin_neI, Nat.reduceAdd, Nat.reduceSub, Nat.reduceMul, Nat.reduceBEq, Nat.reduceLeDiff, Nat.reduceLT, Nat.reduceDiv, Nat.reduceMod])
        | none =>
          rw [hml] at ih
          obtain ⟨w, l', R', q1, q2, q5⟩ := ih
          refine ⟨w, l', R', q1, by simp at q2 g3 ⊢; omega, ?_⟩
          clear q1 q2 g1 g2 g3 g4 hml hd
          simp only [rI, List.map_cons, List.map_nil, List.length_cons, List.length_nil, Nat.zero_add, Nat.reduceAdd, hP, hQ, List.length_append] at h1 hp e q5 ⊢
          rw [← q5]
          clear q5
          have o := o52_11000; simp only [OE, opsR, cqR, subR, chi, Try.f52] at o
          rw [loopC_round]
          (try simp (maxSteps := 4000000) (disch := first | assumption | omega) only [go_sem, *, h1, e, hp, List.length_append, o, ↓bin_eqI, ↓bin_neI, Nat.reduceAdd, Nat.reduceSub, Nat.reduceMul, Nat.reduceBEq, Nat.reduceLeDiff, Nat.reduceLT, Nat.reduceDiv, Nat.reduceMod]); repeat' ((first | with_reducible first | refine caK (fun hb => ?_) fun hb => ?_ | refine caG (fun hb => ?_) fun hb => ?_ | refine caP (fun hb => ?_) fun hb => ?_ | refine caH (fun hb => ?_) fun hb => ?_ | refine caQ (fun hb => ?_) fun hb => ?_ | refine ite_cases (fun hb => ?_) fun hb => ?_ | rw [drwK_ok rfl]) <;> try simp (maxSteps := 4000000) (disch := first | assumption | omega) only [go_sem, *, h1, e, hp, List.length_append, o, ↓bin_eqI, ↓bin_neI, Nat.reduceAdd, Nat.reduceSub, Nat.reduceMul, Nat.reduceBEq, Nat.reduceLeDiff, Nat.reduceLT, Nat.reduceDiv, Nat.reduceMod])
theorem alt_of (k : Nat) (hT : ∀ j, j < k + 1 → PI 59 mRow 1 5 j) : PI 52 mAlt 1 6 (k + 1) := by
  intro l R0 hk hR hlen h24
  have hb := hT k (by omega) l R0 (by omega) hR hlen h24
  simp only [mAlt]
  cases hm : mRow k l with
  | none =>
    rw [hm] at hb
    obtain ⟨w, bs, e, hbs⟩ := hb
    refine ⟨w, bs, ?_, hbs⟩
    clear hm hR hlen hk hT
    rcases hbs with ⟨l', rfl⟩ | ⟨l', R, z1, z2, rfl⟩
    · cases R0
      all_goals
        simp only [hP] at e ⊢
        refine fnL_run rfl N52 Try.func52 U52 ?_; have o := o52; simp only [OE, opsR, cqR, subR, chi, Try.f52] at o
        (try simp (maxSteps := 4000000) (disch := first | assumption | omega) only [go_sem, *, e, loopC_round, o, ↓bin_eqI, ↓bin_neI, Nat.reduceAdd, Nat.reduceSub, Nat.reduceMul, Nat.reduceBEq, Nat.reduceLeDiff, Nat.reduceLT, Nat.reduceDiv, Nat.reduceMod]); repeat' ((first | with_reducible first | refine caK (fun hb => ?_) fun hb => ?_ | refine caG (fun hb => ?_) fun hb => ?_ | refine caP (fun hb => ?_) fun hb => ?_ | refine caH (fun hb => ?_) fun hb => ?_ | refine caQ (fun hb => ?_) fun hb => ?_ | refine ite_cases (fun hb => ?_) fun hb => ?_ | rw [drwK_ok rfl]) <;> try simp (maxSteps := 4000000) (disch := first | assumption | omega) only [go_sem, *, e, loopC_round, o, ↓bin_eqI, ↓bin_neI, Nat.reduceAdd, Nat.reduceSub, Nat.reduceMul, Nat.reduceBEq, Nat.reduceLeDiff, Nat.reduceLT, Nat.reduceDiv, Nat.reduceMod])
    · cases R0
      all_goals
        simp only [hP, hQ] at e ⊢
        refine fnL_run rfl N52 Try.func52 U52 ?_; have o := o52; simp only [OE, opsR, cqR, subR, chi, Try.f52] at o
        (try simp (maxSteps := 4000000) (disch := first | assumption | omega) only [go_sem, *, e, loopC_round, o, ↓bin_eqI, ↓bin_neI, Nat.reduceAdd, Nat.reduceSub, Nat.reduceMul, Nat.reduceBEq, Nat.reduceLeDiff, Nat.reduceLT, Nat.reduceDiv, Nat.reduceMod]); repeat' ((first | with_reducible first | refine caK (fun hb => ?_) fun hb => ?_ | refine caG (fun hb => ?_) fun hb => ?_ | refine caP (fun hb => ?_) fun hb => ?_ | refine caH (fun hb => ?_) fun hb => ?_ | refine caQ (fun hb => ?_) fun hb => ?_ | refine ite_cases (fun hb => ?_) fun hb => ?_ | rw [drwK_ok rfl]) <;> try simp (maxSteps := 4000000) (disch := first | assumption | omega) only [go_sem, *, e, loopC_round, o, ↓bin_eqI, ↓bin_neI, Nat.reduceAdd, Nat.reduceSub, Nat.reduceMul, Nat.reduceBEq, Nat.reduceLeDiff, Nat.reduceLT, Nat.reduceDiv, Nat.reduceMod])
  | some r =>
    rw [hm] at hb
    obtain ⟨a, R, e, g1, g2, g3, g4⟩ := hb
    simp only
    cases R0 with
    | nil =>
      have ih := alt_loop0 k (fun j hj => hT j (by omega)) r a R (by omega) g1 g2 (by simp at g3 hlen; omega) (by omega)
      cases hml : mAltL k r with
      | some rest =>
        rw [hml] at ih
        obtain ⟨a', R', q1, q2, q3, q4, q5⟩ := ih
        refine ⟨a', R', ?_, q1, q2, by simp at g3 ⊢; omega, by simp at g4 ⊢; omega⟩
        clear q1 q2 q3 q4 g1 g2 g3 g4 hml hm hR hlen hk hT
        simp only [hP, hQ] at e ⊢
        refine fnL_run rfl N52 Try.func52 U52 ?_; have o := o52; simp only [OE, opsR, cqR, subR, chi, Try.f52] at o
        (try simp (maxSteps := 4000000) (disch := first | assumption | omega) only [go_sem, *, e, q5, o, ↓bin_eqI, ↓bin_neI, Nat.reduceAdd, Nat.reduceSub, Nat.reduceMul, Nat.reduceBEq, Nat.reduceLeDiff, Nat.reduceLT, Nat.reduceDiv, Nat.reduceMod]); repeat' ((first | with_reducible first | refine caK (fun hb => ?_) fun hb => ?_ | refine caG (fun hb => ?_) fun hb => ?_ | refine caP (fun hb => ?_) fun hb => ?_ | refine caH (fun hb => ?_) fun hb => ?_ | refine caQ (fun hb => ?_) fun hb => ?_ | refine ite_cases (fun hb => ?_) fun hb => ?_ | rw [drwK_ok rfl]) <;> try simp (maxSteps := 4000000) (disch := first | assumption | omega) only [go_sem, *, e, q5, o, ↓bin_eqI, ↓bin_neI, Nat.reduceAdd, Nat.reduceSub, Nat.reduceMul, Nat.reduceBEq, Nat.reduceLeDiff, Nat.reduceLT, Nat.reduceDiv, Nat.reduceMod])
      | none =>
        rw [hml] at ih
        obtain ⟨w, l', R', q1, q2, q5⟩ := ih
        refine ⟨w, _, ?_, .inr ⟨l', R', q1, by simp at g3 ⊢; omega, rfl⟩⟩
        clear q1 q2 g1 g2 g3 g4 hml hm hR hlen hk hT
        simp only [hP, hQ] at e ⊢
        refine fnL_run rfl N52 Try.func52 U52 ?_; have o := o52; simp only [OE, opsR, cqR, subR, chi, Try.f52] at o
        (try simp (maxSteps := 4000000) (disch := first | assumption | omega) only [go_sem, *, e, q5, o, ↓bin_eqI, ↓bin_neI, Nat.reduceAdd, Nat.reduceSub, Nat.reduceMul, Nat.reduceBEq, Nat.reduceLeDiff, Nat.reduceLT, Nat.reduceDiv, Nat.reduceMod]); repeat' ((first | with_reducible first | refine caK (fun hb => ?_) fun hb => ?_ | refine caG (fun hb => ?_) fun hb => ?_ | refine caP (fun hb => ?_) fun hb => ?_ | refine caH (fun hb => ?_) fun hb => ?_ | refine caQ (fun hb => ?_) fun hb => ?_ | refine ite_cases (fun hb => ?_) fun hb => ?_ | rw [drwK_ok rfl]) <;> try simp (maxSteps := 4000000) (disch := first | assumption | omega) only [go_sem, *, e, q5, o, ↓bin_eqI, ↓bin_neI, Nat.reduceAdd, Nat.reduceSub, Nat.reduceMul, Nat.reduceBEq, Nat.reduceLeDiff, Nat.reduceLT, Nat.reduceDiv, Nat.reduceMod])
    | cons p ps =>
      have ih := alt_loop1 k (fun j hj => hT j (by omega)) r a R (by omega) g1 g2 (by simp at g3 hlen; omega) (by omega)
      cases hml : mAltL k r with
      | some rest =>
        rw [hml] at ih
        obtain ⟨a', R', q1, q2, q3, q4, q5⟩ := ih
        refine ⟨a', R', ?_, q1, q2, by simp at g3 ⊢; omega, by simp at g4 ⊢; omega⟩
        clear q1 q2 q3 q4 g1 g2 g3 g4 hml hm hR hlen hk hT
        simp only [hP, hQ] at e ⊢
        refine fnL_run rfl N52 Try.func52 U52 ?_; have o := o52; simp only [OE, opsR, cqR, subR, chi, Try.f52] at o
        (try simp (maxSteps := 4000000) (disch := first | assumption | omega) only [go_sem, *, e, q5, o, ↓bin_eqI, ↓bin_neI, Nat.reduceAdd, Nat.reduceSub, Nat.reduceMul, Nat.reduceBEq, Nat.reduceLeDiff, Nat.reduceLT, Nat.reduceDiv, Nat.reduceMod]); repeat' ((first | with_reducible first | refine caK (fun hb => ?_) fun hb => ?_ | refine caG (fun hb => ?_) fun hb => ?_ | refine caP (fun hb => ?_) fun hb => ?_ | refine caH (fun hb => ?_) fun hb => ?_ | refine caQ (fun hb => ?_) fun hb => ?_ | refine ite_cases (fun hb => ?_) fun hb => ?_ | rw [drwK_ok rfl]) <;> try simp (maxSteps := 4000000) (disch := first | assumption | omega) only [go_sem, *, e, q5, o, ↓bin_eqI, ↓bin_neI, Nat.reduceAdd, Nat.reduceSub, Nat.reduceMul, Nat.reduceBEq, Nat.reduceLeDiff, Nat.reduceLT, Nat.reduceDiv, Nat.reduceMod])
      | none =>
        rw [hml] at ih
        obtain ⟨w, l', R', q1, q2, q5⟩ := ih
        refine ⟨w, _, ?_, .inr ⟨l', R', q1, by simp at g3 ⊢; omega, rfl⟩⟩
        clear q1 q2 g1 g2 g3 g4 hml hm hR hlen hk hT
        simp only [hP, hQ] at e ⊢
        refine fnL_run rfl N52 Try.func52 U52 ?_; have o := o52; simp only [OE, opsR, cqR, subR, chi, Try.f52] at o
        (try simp (maxSteps := 4000000) (disch := first | assumption | omega) only [go_sem, *, e, q5, o, ↓bin_eqI, ↓bin_neI, Nat.reduceAdd, Nat.reduceSub, Nat.reduceMul, Nat.reduceBEq, Nat.reduceLeDiff, Nat.reduceLT, Nat.reduceDiv, Nat.reduceMod]); repeat' ((first | with_reducible first | refine caK (fun hb => ?_) fun hb => ?_ | refine caG (fun hb => ?_) fun hb => ?_ | refine caP (fun hb => ?_) fun hb => ?_ | refine caH (fun hb => ?_) fun hb => ?_ | refine caQ (fun hb => ?_) fun hb => ?_ | refine ite_cases (fun hb => ?_) fun hb => ?_ | rw [drwK_ok rfl]) <;> try simp (maxSteps := 4000000) (disch := first | assumption | omega) only [go_sem, *, e, q5, o, ↓bin_eqI, ↓bin_neI, Nat.reduceAdd, Nat.reduceSub, Nat.reduceMul, Nat.reduceBEq, Nat.reduceLeDiff, Nat.reduceLT, Nat.reduceDiv, Nat.reduceMod])
/-- All of it, at any depth. -/
theorem all_of : ∀ (k : Nat), PI 52 mAlt 1 6 k ∧ PI 59 mRow 1 5 k ∧ PI 72 mThing 0 4 k ∧ PI 79 mBase 0 3 k := by
  intro k
  induction k using Nat.strongRecOn with
  | ind k ih =>
    cases k with
    | zero => exact ⟨fun l R0 hk => by omega, fun l R0 hk => by omega, fun l R0 hk => by omega, fun l R0 hk => by omega⟩
    | succ k =>
      exact ⟨alt_of k (fun j hj => (ih j hj).2.1), row_of k (fun j hj => (ih j hj).2.2.1), thing_of k (ih k (by omega)).2.2.2, base_of k (ih k (by omega)).1⟩
end
end Go.Vsi
