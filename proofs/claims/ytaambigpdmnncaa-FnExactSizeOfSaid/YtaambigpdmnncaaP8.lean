/- What the functions of the program, of the reference and of the law do (a part of it). -/
import Derived.Test.YtaambigpdmnncaaP7
namespace Go.Vsi
open Go.Proofs
noncomputable section
set_option maxRecDepth 100000
set_option maxHeartbeats 4000000
set_option linter.unusedSimpArgs false
set_option linter.unusedVariables false
attribute [local go_sem] List.isEmpty_nil Bool.true_or Bool.and_true Bool.and_self Bool.false_eq_true Bool.not_true Bool.not_false List.set_cons_zero List.set_cons_succ frzSt wantedA evA constW ofVal plain oneOf noUp toVal cellVal putA startA List.length_cons List.length_nil List.map_cons List.map_nil List.replicate List.cons_append List.nil_append List.getElem?_cons_succ List.getElem?_cons_zero List.getElem?_toArray List.set upd Option.bind resA resOne giveA seenOf idsAt reach renH renW renV renS renB idsW idsV idsS frzW frzV frzS List.filter_nil List.range_zero List.flatMap_nil List.flatMap_cons List.append_nil List.range List.range.loop sliceLen intV List.length_map one partA ordOf canon junkBut List.elem_cons List.elem_nil Bool.false_or Bool.or_false Bool.or_true cond_true cond_false firstReg evL opTmps footA cut callOk List.all_nil List.all_cons Op.operands Array.toList List.filterMap_cons List.filterMap_nil lendCall ownCall lendVs lendV lendS plainW plainV plainS List.zipIdx_nil hpOf Array.toList_map idsB natBle beq_self_eq_true Int.toNat_natCast Option.map_some Option.map_none ix cellsV Nat.zero_add List.any_nil List.any_cons List.take_zero List.take_succ_cons List.take_nil List.drop_succ_cons List.drop_zero List.drop_nil toD toDs List.filter_cons Nat.zero_le Nat.le_refl frzH ite_true ite_false if_true if_false stpO_some opsO_nil opsO_cons stpD_some nthD_some drawO_nil drawO_cons decTrue decFalse callA natBeq decT decF B_size B_mk B_empty B_append B_extract decide_eq_true_eq Bool.not_eq_true' decide_eq_false_iff_not Bool.and_eq_true Bool.or_eq_true boundsA sliceA B_toList Bool.and_false Bool.false_and Bool.true_and backOf List.zipIdx_cons Option.getD_some Option.getD_none Nat.sub_self fillA rowsOf toRows List.flatten_cons List.flatten_nil appendA sliceRows lendSs capPtr opO_pick opO_move opO_assign opO_extract opO_nilCheck opO_unOp opO_binOp opO_convert opO_index opO_field opO_alloc opO_box opO_build opO_buildSlice opO_makeSlice opO_load opO_store opO_fieldAddr opO_indexAddr opO_slice opO_makeFunc opO_builtin opO_fn regK_some lopK_some lopK_ite map_get endA condK_true condK_false grdO_true grdO_false grdD_true grdD_false pickO_true pickO_false if_pos if_neg eqI_self eqI_t eqI_f true_and and_true and_self not_true_eq_false not_false_eq_true Bool.not_not Go.Call.operands closedB List.all_append List.filterMap_append Array.toList_append List.flatMap_append Bool.or_self List.getElem?_nil Bool.true_beq Bool.false_beq G79 I3 S3 C3 A3 B3 Try.underlying3 Z3 I5 S5 C5 A5 B5 Try.underlying5 Z5 I9 S9 C9 A9 B9 Try.underlying9 Z9 I47 S47 C47 A47 B47 Try.underlying47 E47 Z47 I80 S80 C80 A80 B80 Try.underlying80 Z80 H60 Y60 H61 Y61 H82 Y82 H83 Y83 H84 Y84 R79 M79
attribute [local go_sem ↓] ite_dec popK_nil popK_seq popK_seqE popK_seqR popK_blk popK_blkR popK_blkE endF_normal endF_ret q79_ q79_0 q79_1 q79_10 q79_100 q79_1000 q79_1001 q79_10010 q79_100100 q79_100101 q79_10011 q79_100110 q79_100111 q79_1001110 q79_10011100 q79_10011101 q79_1001111 q79_10011110 q79_10011111 q79_100111110 q79_1001111100 q79_1001111101 q79_100111111 q79_1001111110 q79_1001111111 q79_10011111110 q79_100111111100 q79_100111111101 q79_10011111111 q79_100111111110 q79_100111111111 q79_1001111111110 q79_10011111111100 q79_10011111111101 q79_1001111111111 q79_11 q79_110 q79_111 bin_add bin_sub bin_mul bin_lss bin_leq bin_gtr bin_geq un_not min_int max_int wrap64' wrap_u8 wrap_i32 wrap64_byte wrap8_byte wrap32_byte bin_eqB bin_neB bin_addB LN9
theorem nx_drop {c : UInt8} {l : List UInt8} (h : nx c l = true) : (l.drop 1).length + 1 = l.length := by
  cases l with
  | nil => simp [nx] at h
  | cons => simp
theorem mSingle_le (l rest : List UInt8) (h : mSingle l = some rest) : rest.length + 1 ≤ l.length := by
  cases l with
  | nil => cases h
  | cons b l =>
    simp only [mSingle] at h
    split at h
    · cases l with
      | nil => cases h
      | cons c r =>
        simp only at h
        split at h
        · obtain rfl := Option.some.inj h
          simp
        · cases h
    · split at h
      · cases h
      · obtain rfl := Option.some.inj h
        simp
theorem base_of (k : Nat) (h : PI 52 mAlt 1 6 k) : PI 79 mBase 0 3 (k + 1) := by
  intro l R0 hk hR hlen h24
  have h1 := take_ok 94 l false R0
  have h2 := take_ok 36 l false R0
  have h3 := take_ok 46 l false R0
  have h4 := take_ok 91 l false R0
  have h5 := take_ok 40 l false R0
  simp only [show ((94 : UInt8).toNat : Int) = 94 from rfl, show ((36 : UInt8).toNat : Int) = 36 from rfl, show ((46 : UInt8).toNat : Int) = 46 from rfl, show ((91 : UInt8).toNat : Int) = 91 from rfl, show ((40 : UInt8).toNat : Int) = 40 from rfl] at h1 h2 h3 h4 h5
  simp only [mBase]
  cases c1 : nx 94 l with
  | true =>
    have hd := nx_drop c1
    have hp := put_nil 10 [] (l.drop 1) false R0 (by omega)
    refine ⟨R0.length, R0 ++ [row 10 [] []], ?_, rowsOK_snoc hR (by simp [pOK, textFit, kidsNum]), by simp, by simp; omega, by omega⟩
    rw [c1] at h1
    simp only [adv] at h1
    generalize l.drop 1 = l1 at h1 hp ⊢
    clear h2 h3 h4 h5 c1  hd hR hlen hk h
    cases R0
    all_goals
      simp only [hP, hQ] at h1 hp ⊢
      refine fnL_run rfl N79 Try.func79 U79 ?_; have o := o79; simp only [OE, opsR, cqR, subR, chi, Try.f79] at o
      (try simp (maxSteps := 4000000) (disch := first | assumption | omega) only [go_sem, *, h1, hp, List.length_append, o, ↓bin_eqI, ↓bin_neI, Nat.reduceAdd, Nat.reduceSub, Nat.reduceMul, Nat.reduceBEq, Nat.reduceLeDiff, Nat.reduceLT, Nat.reduceDiv, Nat.reduceMod]); repeat' ((first | with_reducible first | refine caK (fun hb => ?_) fun hb => ?_ | refine caG (fun hb => ?_) fun hb => ?_ | refine caP (fun hb => ?_) fun hb => ?_ | refine caH (fun hb => ?_) fun hb => ?_ | refine caQ (fun hb => ?_) fun hb => ?_ | refine ite_cases (fun hb => ?_) fun hb => ?_ | rw [drwK_ok rfl]) <;> try simp (maxSteps := 4000000) (disch := first | assumption | omega) only [go_sem, *, h1, hp, List.length_append, o, ↓bin_eqI, ↓bin_neI, Nat.reduceAdd, Nat.reduceSub, Nat.reduceMul, Nat.reduceBEq, Nat.reduceLeDiff, Nat.reduceLT, Nat.reduceDiv, Nat.reduceMod])
  | false =>
    simp only
    cases c2 : nx 36 l with
    | true =>
      have hd := nx_drop c2
      have hp := put_nil 11 [] (l.drop 1) false R0 (by omega)
      refine ⟨R0.length, R0 ++ [row 11 [] []], ?_, rowsOK_snoc hR (by simp [pOK, textFit, kidsNum]), by simp, by simp; omega, by omega⟩
      rw [c2] at h2
      rw [c1] at h1
      simp only [adv] at h1 h2
      generalize l.drop 1 = l1 at h2 hp ⊢
      clear h3 h4 h5 c2 c1 hd hR hlen hk h
      cases R0
      all_goals
        simp only [hP, hQ] at h1 h2 hp ⊢
        refine fnL_run rfl N79 Try.func79 U79 ?_; have o := o79; simp only [OE, opsR, cqR, subR, chi, Try.f79] at o
        (try simp (maxSteps := 4000000) (disch := first | assumption | omega) only [go_sem, *, h1, h2, hp, List.length_append, o, ↓bin_eqI, ↓bin_neI, Nat.reduceAdd, Nat.reduceSub, Nat.reduceMul, Nat.reduceBEq, Nat.reduceLeDiff, Nat.reduceLT, Nat.reduceDiv, Nat.reduceMod]); repeat' ((first | with_reducible first | refine caK (fun hb => ?_) fun hb => ?_ | refine caG (fun hb => ?_) fun hb => ?_ | refine caP (fun hb => ?_) fun hb => ?_ | refine caH (fun hb => ?_) fun hb => ?_ | refine caQ (fun hb => ?_) fun hb => ?_ | refine ite_cases (fun hb => ?_) fun hb => ?_ | rw [drwK_ok rfl]) <;> try simp (maxSteps := 4000000) (disch := first | assumption | omega) only [go_sem, *, h1, h2, hp, List.length_append, o, ↓bin_eqI, ↓bin_neI, Nat.reduceAdd, Nat.reduceSub, Nat.reduceMul, Nat.reduceBEq, Nat.reduceLeDiff, Nat.reduceLT, Nat.reduceDiv, Nat.reduceMod])
    | false =>
      simp only
      cases c3 : nx 46 l with
      | true =>
        have hd := nx_drop c3
        have hp := put_nil 2 [] (l.drop 1) false R0 (by omega)
        refine ⟨R0.length, R0 ++ [row 2 [] []], ?_, rowsOK_snoc hR (by simp [pOK, textFit, kidsNum]), by simp, by simp; omega, by omega⟩
        rw [c3] at h3
        rw [c1] at h1
        rw [c2] at h2
        simp only [adv] at h1 h2 h3
        generalize l.drop 1 = l1 at h3 hp ⊢
        clear h4 h5 c3 c1 c2 hd hR hlen hk h
        cases R0
        all_goals
          simp only [hP, hQ] at h1 h2 h3 hp ⊢
          refine fnL_run rfl N79 Try.func79 U79 ?_; have o := o79; simp only [OE, opsR, cqR, subR, chi, Try.f79] at o
          (try simp (maxSteps := 4000000) (disch := first | assumption | omega) only [go_sem, *, h1, h2, h3, hp, List.length_append, o, ↓bin_eqI, ↓bin_neI, Nat.reduceAdd, Nat.reduceSub, Nat.reduceMul, Nat.reduceBEq, Nat.reduceLeDiff, Nat.reduceLT, Nat.reduceDiv, Nat.reduceMod]); repeat' ((first | with_reducible first | refine caK (fun hb => ?_) fun hb => ?_ | refine caG (fun hb => ?_) fun hb => ?_ | refine caP (fun hb => ?_) fun hb => ?_ | refine caH (fun hb => ?_) fun hb => ?_ | refine caQ (fun hb => ?_) fun hb => ?_ | refine ite_cases (fun hb => ?_) fun hb => ?_ | rw [drwK_ok rfl]) <;> try simp (maxSteps := 4000000) (disch := first | assumption | omega) only [go_sem, *, h1, h2, h3, hp, List.length_append, o, ↓bin_eqI, ↓bin_neI, Nat.reduceAdd, Nat.reduceSub, Nat.reduceMul, Nat.reduceBEq, Nat.reduceLeDiff, Nat.reduceLT, Nat.reduceDiv, Nat.reduceMod])
      | false =>
        simp only
        cases c4 : nx 91 l with
        | true =>
          have hd := nx_drop c4
          simp only
          have hs := set_ok (R0.length + 2 * l.length + 2 * 0 + 1) (l.drop 1) R0 (by omega) (by omega)
          rw [c1] at h1
          rw [c2] at h2
          rw [c3] at h3
          rw [c4] at h4
          simp only [adv] at h1 h2 h3 h4
          clear h5 c1 c2 c3 c4 h
          generalize l.drop 1 = l1 at h4 hs hd ⊢
          cases hm : mSet l1 with
          | none =>
            rw [hm] at hs
            clear hm hd hk hR hlen
            obtain ⟨w, bs, e, hbs⟩ := hs
            refine ⟨w, bs, ?_, hbs⟩
            rcases hbs with ⟨l', rfl⟩ | ⟨l', R, z1, z2, rfl⟩
            · cases R0
              all_goals
                simp only [hP] at h1 h2 h3 h4 e ⊢
                refine fnL_run rfl N79 Try.func79 U79 ?_; have o := o79; simp only [OE, opsR, cqR, subR, chi, Try.f79] at o
                (try simp (maxSteps := 4000000) (disch := first | assumption | omega) only [go_sem, *, h1, h2, h3, h4, e, o, ↓bin_eqI, ↓bin_neI, Nat.reduceAdd, Nat.reduceSub, Nat.reduceMul, Nat.reduceBEq, Nat.reduceLeDiff, Nat.reduceLT, Nat.reduceDiv, Nat.reduceMod]); repeat' ((first | with_reducible first | refine caK (fun hb => ?_) fun hb => ?_ | refine caG (fun hb => ?_) fun hb => ?_ | refine caP (fun hb => ?_) fun hb => ?_ | refine caH (fun hb => ?_) fun hb => ?_ | refine caQ (fun hb => ?_) fun hb => ?_ | refine ite_cases (fun hb => ?_) fun hb => ?_ | rw [drwK_ok rfl]) <;> try simp (maxSteps := 4000000) (disch := first | assumption | omega) only [go_sem, *, h1, h2, h3, h4, e, o, ↓bin_eqI, ↓bin_neI, Nat.reduceAdd, Nat.reduceSub, Nat.reduceMul, Nat.reduceBEq, Nat.reduceLeDiff, Nat.reduceLT, Nat.reduceDiv, Nat.reduceMod])
            · cases R0
              all_goals
                simp only [hP, hQ] at h1 h2 h3 h4 e ⊢
                refine fnL_run rfl N79 Try.func79 U79 ?_; have o := o79; simp only [OE, opsR, cqR, subR, chi, Try.f79] at o
                (try simp (maxSteps := 4000000) (disch := first | assumption | omega) only [go_sem, *, h1, h2, h3, h4, e, o, ↓bin_eqI, ↓bin_neI, Nat.reduceAdd, Nat.reduceSub, Nat.reduceMul, Nat.reduceBEq, Nat.reduceLeDiff, Nat.reduceLT, Nat.reduceDiv, Nat.reduceMod]); repeat' ((first | with_reducible first | refine caK (fun hb => ?_) fun hb => ?_ | refine caG (fun hb => ?_) fun hb => ?_ | refine caP (fun hb => ?_) fun hb => ?_ | refine caH (fun hb => ?_) fun hb => ?_ | refine caQ (fun hb => ?_) fun hb => ?_ | refine ite_cases (fun hb => ?_) fun hb => ?_ | rw [drwK_ok rfl]) <;> try simp (maxSteps := 4000000) (disch := first | assumption | omega) only [go_sem, *, h1, h2, h3, h4, e, o, ↓bin_eqI, ↓bin_neI, Nat.reduceAdd, Nat.reduceSub, Nat.reduceMul, Nat.reduceBEq, Nat.reduceLeDiff, Nat.reduceLT, Nat.reduceDiv, Nat.reduceMod])
          | some r =>
            rw [hm] at hs
            obtain ⟨a, R, e, ea, op, t, eo, et1, et2, eR⟩ := hs
            refine ⟨a, R, ?_, ?_, ?_, ?_, ?_⟩
            · clear hm hd hk hR hlen ea eo et1 et2 eR
              cases R0
              all_goals
                simp only [hP, hQ] at h1 h2 h3 h4 e ⊢
                refine fnL_run rfl N79 Try.func79 U79 ?_; have o := o79; simp only [OE, opsR, cqR, subR, chi, Try.f79] at o
                (try simp (maxSteps := 4000000) (disch := first | assumption | omega) only [go_sem, *, h1, h2, h3, h4, e, o, ↓bin_eqI, ↓bin_neI, Nat.reduceAdd, Nat.reduceSub, Nat.reduceMul, Nat.reduceBEq, Nat.reduceLeDiff, Nat.reduceLT, Nat.reduceDiv, Nat.reduceMod]); repeat' ((first | with_reducible first | refine caK (fun hb => ?_) fun hb => ?_ | refine caG (fun hb => ?_) fun hb => ?_ | refine caP (fun hb => ?_) fun hb => ?_ | refine caH (fun hb => ?_) fun hb => ?_ | refine caQ (fun hb => ?_) fun hb => ?_ | refine ite_cases (fun hb => ?_) fun hb => ?_ | rw [drwK_ok rfl]) <;> try simp (maxSteps := 4000000) (disch := first | assumption | omega) only [go_sem, *, h1, h2, h3, h4, e, o, ↓bin_eqI, ↓bin_neI, Nat.reduceAdd, Nat.reduceSub, Nat.reduceMul, Nat.reduceBEq, Nat.reduceLeDiff, Nat.reduceLT, Nat.reduceDiv, Nat.reduceMod])
            · rw [eR]
              exact rowsOK_snoc hR (by rcases eo with rfl | rfl <;> simp [pOK, textFit, kidsNum] <;> omega)
            · rw [eR, ea]; simp
            · rw [eR]; simp; omega
            · omega
        | false =>
          simp only
          rw [c1] at h1
          rw [c2] at h2
          rw [c3] at h3
          rw [c4] at h4
          clear c1 c2 c3 c4
          cases c5 : nx 40 l with
          | true =>
            have hd := nx_drop c5
            rw [c5] at h5
            simp only [adv] at h1 h2 h3 h4 h5
            have hs := group_of (R0.length + 2 * l.length + 2 * 0 + 1) k h (l.drop 1) R0 (by omega) hR (by omega) (by omega) (by omega)
            show Ans _ R0 _ _ (mGroup k (l.drop 1))
            clear c5 h
            generalize l.drop 1 = l1 at h5 hs hd ⊢
            cases hm : mGroup k l1 with
            | none =>
              rw [hm] at hs
              clear hm hd hk hR hlen
              obtain ⟨w, bs, e, hbs⟩ := hs
              refine ⟨w, bs, ?_, hbs⟩
              rcases hbs with ⟨l', rfl⟩ | ⟨l', R, z1, z2, rfl⟩
              · cases R0
                all_goals
                  simp only [hP] at h1 h2 h3 h4 h5 e ⊢
                  refine fnL_run rfl N79 Try.func79 U79 ?_; have o := o79; simp only [OE, opsR, cqR, subR, chi, Try.f79] at o
                  (try simp (maxSteps := 4000000) (disch := first | assumption | omega) only [go_sem, *, h1, h2, h3, h4, h5, e, o, ↓bin_eqI, ↓bin_neI, Nat.reduceAdd, Nat.reduceSub, Nat.reduceMul, Nat.reduceBEq, Nat.reduceLeDiff, Nat.reduceLT, Nat.reduceDiv, Nat.reduceMod]); repeat' ((first | with_reducible first | refine caK (fun hb => ?_) fun hb => ?_ | refine caG (fun hb => ?_) fun hb => ?_ | refine caP (fun hb => ?_) fun hb => ?_ | refine caH (fun hb => ?_) fun hb => ?_ | refine caQ (fun hb => ?_) fun hb => ?_ | refine ite_cases (fun hb => ?_) fun hb => ?_ | rw [drwK_ok rfl]) <;> try simp (maxSteps := 4000000) (disch := first | assumption | omega) only [go_sem, *, h1, h2, h3, h4, h5, e, o, ↓bin_eqI, ↓bin_neI, Nat.reduceAdd, Nat.reduceSub, Nat.reduceMul, Nat.reduceBEq, Nat.reduceLeDiff, Nat.reduceLT, Nat.reduceDiv, Nat.reduceMod])
              · cases R0
                all_goals
                  simp only [hP, hQ] at h1 h2 h3 h4 h5 e ⊢
                  refine fnL_run rfl N79 Try.func79 U79 ?_; have o := o79; simp only [OE, opsR, cqR, subR, chi, Try.f79] at o
                  (try simp (maxSteps := 4000000) (disch := first | assumption | omega) only [go_sem, *, h1, h2, h3, h4, h5, e, o, ↓bin_eqI, ↓bin_neI, Nat.reduceAdd, Nat.reduceSub, Nat.reduceMul, Nat.reduceBEq, Nat.reduceLeDiff, Nat.reduceLT, Nat.reduceDiv, Nat.reduceMod]); repeat' ((first | with_reducible first | refine caK (fun hb => ?_) fun hb => ?_ | refine caG (fun hb => ?_) fun hb => ?_ | refine caP (fun hb => ?_) fun hb => ?_ | refine caH (fun hb => ?_) fun hb => ?_ | refine caQ (fun hb => ?_) fun hb => ?_ | refine ite_cases (fun hb => ?_) fun hb => ?_ | rw [drwK_ok rfl]) <;> try simp (maxSteps := 4000000) (disch := first | assumption | omega) only [go_sem, *, h1, h2, h3, h4, h5, e, o, ↓bin_eqI, ↓bin_neI, Nat.reduceAdd, Nat.reduceSub, Nat.reduceMul, Nat.reduceBEq, Nat.reduceLeDiff, Nat.reduceLT, Nat.reduceDiv, Nat.reduceMod])
            | some r =>
              rw [hm] at hs
              obtain ⟨a, R, e, g1, g2, g3, g4⟩ := hs
              refine ⟨a, R, ?_, g1, g2, by omega, by omega⟩
              clear hm hd hk hR hlen g1 g2 g3 g4
              cases R0
              all_goals
                simp only [hP, hQ] at h1 h2 h3 h4 h5 e ⊢
                refine fnL_run rfl N79 Try.func79 U79 ?_; have o := o79; simp only [OE, opsR, cqR, subR, chi, Try.f79] at o
                (try simp (maxSteps := 4000000) (disch := first | assumption | omega) only [go_sem, *, h1, h2, h3, h4, h5, e, o, ↓bin_eqI, ↓bin_neI, Nat.reduceAdd, Nat.reduceSub, Nat.reduceMul, Nat.reduceBEq, Nat.reduceLeDiff, Nat.reduceLT, Nat.reduceDiv, Nat.reduceMod]); repeat' ((first | with_reducible first | refine caK (fun hb => ?_) fun hb => ?_ | refine caG (fun hb => ?_) fun hb => ?_ | refine caP (fun hb => ?_) fun hb => ?_ | refine caH (fun hb => ?_) fun hb => ?_ | refine caQ (fun hb => ?_) fun hb => ?_ | refine ite_cases (fun hb => ?_) fun hb => ?_ | rw [drwK_ok rfl]) <;> try simp (maxSteps := 4000000) (disch := first | assumption | omega) only [go_sem, *, h1, h2, h3, h4, h5, e, o, ↓bin_eqI, ↓bin_neI, Nat.reduceAdd, Nat.reduceSub, Nat.reduceMul, Nat.reduceBEq, Nat.reduceLeDiff, Nat.reduceLT, Nat.reduceDiv, Nat.reduceMod])
          | false =>
            rw [c5] at h5
            simp only [adv] at h1 h2 h3 h4 h5
            have hs := single_ok (R0.length + 2 * l.length + 2 * 0 + 1) l R0 (by omega) (by omega)
            simp only
            clear c5 h
            cases hm : mSingle l with
            | none =>
              rw [hm] at hs
              clear hm hk hR hlen
              obtain ⟨w, bs, e, hbs⟩ := hs
              refine ⟨w, bs, ?_, hbs⟩
              rcases hbs with ⟨l', rfl⟩ | ⟨l', R, z1, z2, rfl⟩
              · cases R0
                all_goals
                  simp only [hP] at h1 h2 h3 h4 h5 e ⊢
                  refine fnL_run rfl N79 Try.func79 U79 ?_; have o := o79; simp only [OE, opsR, cqR, subR, chi, Try.f79] at o
                  (try simp (maxSteps := 4000000) (disch := first | assumption | omega) only [go_sem, *, h1, h2, h3, h4, h5, e, o, ↓bin_eqI, ↓bin_neI, Nat.reduceAdd, Nat.reduceSub, Nat.reduceMul, Nat.reduceBEq, Nat.reduceLeDiff, Nat.reduceLT, Nat.reduceDiv, Nat.reduceMod]); repeat' ((first | with_reducible first | refine caK (fun hb => ?_) fun hb => ?_ | refine caG (fun hb => ?_) fun hb => ?_ | refine caP (fun hb => ?_) fun hb => ?_ | refine caH (fun hb => ?_) fun hb => ?_ | refine caQ (fun hb => ?_) fun hb => ?_ | refine ite_cases (fun hb => ?_) fun hb => ?_ | rw [drwK_ok rfl]) <;> try simp (maxSteps := 4000000) (disch := first | assumption | omega) only [go_sem, *, h1, h2, h3, h4, h5, e, o, ↓bin_eqI, ↓bin_neI, Nat.reduceAdd, Nat.reduceSub, Nat.reduceMul, Nat.reduceBEq, Nat.reduceLeDiff, Nat.reduceLT, Nat.reduceDiv, Nat.reduceMod])
              · cases R0
                all_goals
                  simp only [hP, hQ] at h1 h2 h3 h4 h5 e ⊢
                  refine fnL_run rfl N79 Try.func79 U79 ?_; have o := o79; simp only [OE, opsR, cqR, subR, chi, Try.f79] at o
                  (try simp (maxSteps := 4000000) (disch := first | assumption | omega) only [go_sem, *, h1, h2, h3, h4, h5, e, o, ↓bin_eqI, ↓bin_neI, Nat.reduceAdd, Nat.reduceSub, Nat.reduceMul, Nat.reduceBEq, Nat.reduceLeDiff, Nat.reduceLT, Nat.reduceDiv, Nat.reduceMod]); repeat' ((first | with_reducible first | refine caK (fun hb => ?_) fun hb => ?_ | refine caG (fun hb => ?_) fun hb => ?_ | refine caP (fun hb => ?_) fun hb => ?_ | refine caH (fun hb => ?_) fun hb => ?_ | refine caQ (fun hb => ?_) fun hb => ?_ | refine ite_cases (fun hb => ?_) fun hb => ?_ | rw [drwK_ok rfl]) <;> try simp (maxSteps := 4000000) (disch := first | assumption | omega) only [go_sem, *, h1, h2, h3, h4, h5, e, o, ↓bin_eqI, ↓bin_neI, Nat.reduceAdd, Nat.reduceSub, Nat.reduceMul, Nat.reduceBEq, Nat.reduceLeDiff, Nat.reduceLT, Nat.reduceDiv, Nat.reduceMod])
            | some r =>
              have hle := mSingle_le l r hm
              rw [hm] at hs
              obtain ⟨a, R, e, ea, t, et, eR⟩ := hs
              refine ⟨a, R, ?_, ?_, ?_, ?_, ?_⟩
              · clear hm hle hk hR hlen ea et eR
                cases R0
                all_goals
                  simp only [hP, hQ] at h1 h2 h3 h4 h5 e ⊢
                  refine fnL_run rfl N79 Try.func79 U79 ?_; have o := o79; simp only [OE, opsR, cqR, subR, chi, Try.f79] at o
                  (try simp (maxSteps := 4000000) (disch := first | assumption | omega) only [go_sem, *, h1, h2, h3, h4, h5, e, o, ↓bin_eqI, ↓bin_neI, Nat.reduceAdd, Nat.reduceSub, Nat.reduceMul, Nat.reduceBEq, Nat.reduceLeDiff, Nat.reduceLT, Nat.reduceDiv, Nat.reduceMod]); repeat' ((first | with_reducible first | refine caK (fun hb => ?_) fun hb => ?_ | refine caG (fun hb => ?_) fun hb => ?_ | refine caP (fun hb => ?_) fun hb => ?_ | refine caH (fun hb => ?_) fun hb => ?_ | refine caQ (fun hb => ?_) fun hb => ?_ | refine ite_cases (fun hb => ?_) fun hb => ?_ | rw [drwK_ok rfl]) <;> try simp (maxSteps := 4000000) (disch := first | assumption | omega) only [go_sem, *, h1, h2, h3, h4, h5, e, o, ↓bin_eqI, ↓bin_neI, Nat.reduceAdd, Nat.reduceSub, Nat.reduceMul, Nat.reduceBEq, Nat.reduceLeDiff, Nat.reduceLT, Nat.reduceDiv, Nat.reduceMod])
              · rw [eR]
                exact rowsOK_snoc hR (by simp [pOK, textFit, kidsNum, et])
              · rw [eR, ea]; simp
              · rw [eR]; simp; omega
              · omega
end
end Go.Vsi
