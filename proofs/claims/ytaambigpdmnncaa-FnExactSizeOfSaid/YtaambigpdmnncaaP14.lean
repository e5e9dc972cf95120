/- What the functions of the program, of the reference and of the law do (a part of it). -/
import Derived.Test.YtaambigpdmnncaaP13
namespace Go.Vsi
open Go.Proofs
noncomputable section
set_option maxRecDepth 100000
set_option maxHeartbeats 4000000
set_option linter.unusedSimpArgs false
set_option linter.unusedVariables false
attribute [local go_sem] List.isEmpty_nil Bool.true_or Bool.and_true Bool.and_self Bool.false_eq_true Bool.not_true Bool.not_false List.set_cons_zero List.set_cons_succ frzSt wantedA evA constW ofVal plain oneOf noUp toVal cellVal putA startA List.length_cons List.length_nil List.map_cons List.map_nil List.replicate List.cons_append List.nil_append List.getElem?_cons_succ List.getElem?_cons_zero List.getElem?_toArray List.set upd Option.bind resA resOne giveA seenOf idsAt reach renH renW renV renS renB idsW idsV idsS frzW frzV frzS List.filter_nil List.range_zero List.flatMap_nil List.flatMap_cons List.append_nil List.range List.range.loop sliceLen intV List.length_map one partA ordOf canon junkBut List.elem_cons List.elem_nil Bool.false_or Bool.or_false Bool.or_true cond_true cond_false firstReg evL opTmps footA cut callOk List.all_nil List.all_cons Op.operands Array.toList List.filterMap_cons List.filterMap_nil lendCall ownCall lendVs lendV lendS plainW plainV plainS List.zipIdx_nil hpOf Array.toList_map idsB natBle beq_self_eq_true Int.toNat_natCast Option.map_some Option.map_none ix cellsV Nat.zero_add List.any_nil List.any_cons List.take_zero List.take_succ_cons List.take_nil List.drop_succ_cons List.drop_zero List.drop_nil toD toDs List.filter_cons Nat.zero_le Nat.le_refl frzH ite_true ite_false if_true if_false stpO_some opsO_nil opsO_cons stpD_some nthD_some drawO_nil drawO_cons decTrue decFalse callA natBeq decT decF B_size B_mk B_empty B_append B_extract decide_eq_true_eq Bool.not_eq_true' decide_eq_false_iff_not Bool.and_eq_true Bool.or_eq_true boundsA sliceA B_toList Bool.and_false Bool.false_and Bool.true_and backOf List.zipIdx_cons Option.getD_some Option.getD_none Nat.sub_self fillA rowsOf toRows List.flatten_cons List.flatten_nil appendA sliceRows lendSs capPtr opO_pick opO_move opO_assign opO_extract opO_nilCheck opO_unOp opO_binOp opO_convert opO_index opO_field opO_alloc opO_box opO_build opO_buildSlice opO_makeSlice opO_load opO_store opO_fieldAddr opO_indexAddr opO_slice opO_makeFunc opO_builtin opO_fn regK_some lopK_some lopK_ite map_get endA condK_true condK_false grdO_true grdO_false grdD_true grdD_false pickO_true pickO_false if_pos if_neg eqI_self eqI_t eqI_f true_and and_true and_self not_true_eq_false not_false_eq_true Bool.not_not Go.Call.operands closedB List.all_append List.filterMap_append Array.toList_append List.flatMap_append Bool.or_self List.getElem?_nil Bool.true_beq Bool.false_beq G86 I3 S3 C3 A3 B3 Try.underlying3 Z3 I4 S4 C4 A4 B4 Try.underlying4 Z4 I5 S5 C5 A5 B5 Try.underlying5 Z5 I9 S9 C9 A9 B9 Try.underlying9 Z9 I47 S47 C47 A47 B47 Try.underlying47 E47 Z47 I71 S71 C71 A71 B71 Try.underlying71 E71 Z71 I87 S87 C87 A87 B87 Try.underlying87 Z87 I89 S89 C89 A89 B89 Try.underlying89 Z89 I92 S92 C92 A92 B92 Try.underlying92 Z92 K86_7 O86_7 H68 Y68 H69 Y69 R86 M86
attribute [local go_sem ↓] ite_dec popK_nil popK_seq popK_seqE popK_seqR popK_blk popK_blkR popK_blkE endF_normal endF_ret q86_ q86_0 q86_1 q86_10 q86_11 q86_110 q86_111 q86_1110 q86_11100 q86_11101 q86_111010 q86_1110100 q86_1110101 q86_111011 q86_1111 q86_11110 q86_11111 q86_111110 q86_1111100 q86_11111000 q86_111110000 q86_1111100000 q86_1111100001 q86_11111000010 q86_11111000011 q86_111110001 q86_1111100010 q86_111111 q86_1111110 q86_11111100 q86_11111101 q86_111111010 q86_1111110100 q86_1111110101 q86_11111101010 q86_11111101011 q86_111111011 q86_1111111 q86_11111110 q86_11111111 q86_111111110 q86_111111111 q86_1111111110 q86_1111111111 bin_add bin_sub bin_mul bin_lss bin_leq bin_gtr bin_geq un_not min_int max_int wrap64' wrap_u8 wrap_i32 wrap64_byte wrap8_byte wrap32_byte bin_eqB bin_neB bin_addB LN9 IX9
theorem b93 (b : UInt8) : ((b.toNat : Int) = 93) = (b = 93) := by
  rw [eq_iff_iff]
  constructor
  · intro h; exact UInt8.toNat_inj.1 (by have : (93 : UInt8).toNat = 93 := rfl; omega)
  · rintro rfl; rfl
theorem cutLen_none : ∀ l : List UInt8, mCut l = none → cutLen l = l.length
  | [], _ => rfl
  | b :: l, h => by
    unfold mCut at h
    split at h
    · cases h
    · rename_i hb
      have : mCut l = none := by
        revert h
        cases mCut l with
        | none => intro _; rfl
        | some x => intro h; cases h
      have ih := cutLen_none l this
      unfold cutLen
      rw [if_neg (show ¬ (b.toNat : Int) = 93 by rw [b93]; exact hb), ih]
      rfl
theorem cutLen_some : ∀ (l x y : List UInt8), mCut l = some (x, y) → cutLen l = x.length
  | [], x, y, h => by cases h
  | b :: l, x, y, h => by
    unfold mCut at h
    unfold cutLen
    split at h
    · rename_i hb
      obtain ⟨rfl, rfl⟩ := Prod.mk.inj (Option.some.inj h)
      rw [if_pos (show (b.toNat : Int) = 93 by rw [b93]; exact hb)]
      rfl
    · rename_i hb
      rw [if_neg (show ¬ (b.toNat : Int) = 93 by rw [b93]; exact hb)]
      cases hc : mCut l with
      | none => rw [hc] at h; cases h
      | some z =>
        obtain ⟨x', y'⟩ := z
        rw [hc] at h
        obtain ⟨rfl, rfl⟩ := Prod.mk.inj (Option.some.inj h)
        rw [cutLen_some l x' y' hc]
        rfl
/-- How a function of the reference's reader answers: good, with one piece or more; or bad. -/
def AnsS (s : List UInt8) (M : Nat) (R0 : List (List D)) (r : Option (W × List (Option Blk))) (good : Nat → Nat → List (List D) → Prop) : Option (List UInt8) → Prop
  | some rest => ∃ (a n : Nat) (R : List (List D)), r = some (.one (.c (.d (.v (.int .i64 ((a : Int)))))), hT R0 s n false R) ∧ n ≤ s.length ∧ rest = s.drop n ∧ good n a R
  | none => ∃ (w : Int) (bs : List (Option Blk)), r = some (.one (.c (.d (.v (.int .i64 (w))))), bs) ∧ ((∃ n, bs = hS s n true R0) ∨ ∃ n R, 1 ≤ R.length ∧ R.length ≤ M ∧ bs = hT R0 s n true R)
theorem nx_true {c : UInt8} {l : List UInt8} (h : nx c l = true) : l ≠ [] := by
  rintro rfl
  cases h
theorem sset_0a (M : Nat) (s : List UInt8) (n : Nat) (R0 : List (List D)) (hn : n < s.length) (hs : s.length ≤ 24) (hR : R0.length ≤ 59) (hb : nx 94 (s.drop (n + 1)) = false) (hm : mCut (s.drop (n + 1)) = none) : AnsS s M R0 (fnL Try.prog T L0 86 [.c (.ptr 0 0 0)] (hS s n false R0)) (fun n' a R => a = R0.length ∧ R.length = R0.length + 1 ∧ n + 2 < n') (mSet (s.drop (n + 1))) := by
  have e94 : ((94 : UInt8).toNat : Int) = 94 := rfl
  have hi := sis_ok 94 s (n + 1) (by omega) hs R0
  rw [e94, hb] at hi
  have ec1 : ((n + 1 : Nat) : Int) = (n : Int) + 1 := by omega
  have ec2 : ((n + 1 + 1 : Nat) : Int) = (n : Int) + 1 + 1 := by omega
  have et1 : ((n : Int) + 1).toNat = n + 1 := by omega
  have et2 : ((n : Int) + 1 + 1).toNat = n + 1 + 1 := by omega
  have hn1 : n + 1 ≤ s.length := by omega
  have L0' := fun b0 => sset_loop0 s hs 3 b0 (s.length - (n + 1)) (n + 1) (by omega)
  have L1' := fun b0 r R => sset_loop1 s hs 3 b0 r R (s.length - (n + 1)) (n + 1) (by omega)
  simp only [mSet, hb, adv, List.drop_drop, hm]
  clear hb
  have he := cutLen_none _ hm
  rw [List.length_drop] at he
  have he2 : n + 1 + cutLen (s.drop (n + 1)) = s.length := by omega
  rw [he2] at L0' L1'
  refine ⟨0, hS s s.length true R0, ?_, .inl ⟨_, rfl⟩⟩
  clear hm he he2 hR
  cases R0
  all_goals
    simp only [hS, ec1, ec2] at hi L0' L1' ⊢
    refine fnL_run rfl N86 Try.func86 U86 ?_; have o := o86; simp only [OE, opsR, cqR, subR, chi, Try.f86] at o
    (try simp (maxSteps := 4000000) (disch := first | assumption | omega) only [go_sem, *, arr_all, Option.isSome_some, hi, L0', L1', o, ↓bin_eqI, ↓bin_neI, Nat.reduceAdd, Nat.reduceSub, Nat.reduceMul, Nat.reduceBEq, Nat.reduceLeDiff, Nat.reduceLT, Nat.reduceDiv, Nat.reduceMod]); repeat' ((first | with_reducible first | refine caK (fun hb => ?_) fun hb => ?_ | refine caG (fun hb => ?_) fun hb => ?_ | refine caP (fun hb => ?_) fun hb => ?_ | refine caH (fun hb => ?_) fun hb => ?_ | refine caQ (fun hb => ?_) fun hb => ?_ | refine ite_cases (fun hb => ?_) fun hb => ?_ | rw [drwK_ok rfl]) <;> try simp (maxSteps := 4000000) (disch := first | assumption | omega) only [go_sem, *, arr_all, Option.isSome_some, hi, L0', L1', o, ↓bin_eqI, ↓bin_neI, Nat.reduceAdd, Nat.reduceSub, Nat.reduceMul, Nat.reduceBEq, Nat.reduceLeDiff, Nat.reduceLT, Nat.reduceDiv, Nat.reduceMod])
theorem sset_0b (M : Nat) (s : List UInt8) (n : Nat) (R0 : List (List D)) (hn : n < s.length) (hs : s.length ≤ 24) (hR : R0.length ≤ 59) (hb : nx 94 (s.drop (n + 1)) = false) (y : List UInt8) (hm : mCut (s.drop (n + 1)) = some ([], y)) : AnsS s M R0 (fnL Try.prog T L0 86 [.c (.ptr 0 0 0)] (hS s n false R0)) (fun n' a R => a = R0.length ∧ R.length = R0.length + 1 ∧ n + 2 < n') (mSet (s.drop (n + 1))) := by
  have e94 : ((94 : UInt8).toNat : Int) = 94 := rfl
  have hi := sis_ok 94 s (n + 1) (by omega) hs R0
  rw [e94, hb] at hi
  have ec1 : ((n + 1 : Nat) : Int) = (n : Int) + 1 := by omega
  have ec2 : ((n + 1 + 1 : Nat) : Int) = (n : Int) + 1 + 1 := by omega
  have et1 : ((n : Int) + 1).toNat = n + 1 := by omega
  have et2 : ((n : Int) + 1 + 1).toNat = n + 1 + 1 := by omega
  have hn1 : n + 1 ≤ s.length := by omega
  have L0' := fun b0 => sset_loop0 s hs 3 b0 (s.length - (n + 1)) (n + 1) (by omega)
  have L1' := fun b0 r R => sset_loop1 s hs 3 b0 r R (s.length - (n + 1)) (n + 1) (by omega)
  simp only [mSet, hb, adv, List.drop_drop, hm]
  clear hb
  have he := cutLen_some _ _ y hm
  obtain ⟨h1, _⟩ := mCut_some _ _ y hm
  have hlen : s.length - (n + 1) = ([] : List UInt8).length + 1 + y.length := by
    have := congrArg List.length h1
    rw [List.length_drop] at this
    simp at this
    simp
    omega
  have hy : y = s.drop (n + 1 + ([] : List UInt8).length + 1) := by
    rw [show n + 1 + ([] : List UInt8).length + 1 = (n + 1) + (([] : List UInt8).length + 1) by omega, ← List.drop_drop, h1, show ([] : List UInt8) ++ 93 :: y = (([] : List UInt8) ++ [93]) ++ y by simp, List.drop_left' (by simp)]
  rw [he] at L0' L1'
  have q1 : eqI (((n + 1 + ([] : List UInt8).length : Nat)) : Int) (s.length : Int) = false := by
    simp only [eqI, decide_eq_false_iff_not]
    omega
  clear hm he h1
  simp only [List.length_nil, Nat.add_zero] at L0' L1' q1
  refine ⟨0, hS s (n + 1) true R0, ?_, .inl ⟨_, rfl⟩⟩
  clear hR hy hlen
  cases R0
  all_goals
    simp only [hS, ec1, ec2] at hi L0' L1' q1 ⊢
    refine fnL_run rfl N86 Try.func86 U86 ?_; have o := o86; simp only [OE, opsR, cqR, subR, chi, Try.f86] at o
    (try simp (maxSteps := 4000000) (disch := first | assumption | omega) only [go_sem, *, arr_all, Option.isSome_some, hi, L0', L1', q1, o, ↓bin_eqI, ↓bin_neI, Nat.reduceAdd, Nat.reduceSub, Nat.reduceMul, Nat.reduceBEq, Nat.reduceLeDiff, Nat.reduceLT, Nat.reduceDiv, Nat.reduceMod]); repeat' ((first | with_reducible first | refine caK (fun hb => ?_) fun hb => ?_ | refine caG (fun hb => ?_) fun hb => ?_ | refine caP (fun hb => ?_) fun hb => ?_ | refine caH (fun hb => ?_) fun hb => ?_ | refine caQ (fun hb => ?_) fun hb => ?_ | refine ite_cases (fun hb => ?_) fun hb => ?_ | rw [drwK_ok rfl]) <;> try simp (maxSteps := 4000000) (disch := first | assumption | omega) only [go_sem, *, arr_all, Option.isSome_some, hi, L0', L1', q1, o, ↓bin_eqI, ↓bin_neI, Nat.reduceAdd, Nat.reduceSub, Nat.reduceMul, Nat.reduceBEq, Nat.reduceLeDiff, Nat.reduceLT, Nat.reduceDiv, Nat.reduceMod])
theorem sset_0c (M : Nat) (s : List UInt8) (n : Nat) (R0 : List (List D)) (hn : n < s.length) (hs : s.length ≤ 24) (hR : R0.length ≤ 59) (hb : nx 94 (s.drop (n + 1)) = false) (b : UInt8) (x y : List UInt8) (hm : mCut (s.drop (n + 1)) = some (b :: x, y)) : AnsS s M R0 (fnL Try.prog T L0 86 [.c (.ptr 0 0 0)] (hS s n false R0)) (fun n' a R => a = R0.length ∧ R.length = R0.length + 1 ∧ n + 2 < n') (mSet (s.drop (n + 1))) := by
  have e94 : ((94 : UInt8).toNat : Int) = 94 := rfl
  have hi := sis_ok 94 s (n + 1) (by omega) hs R0
  rw [e94, hb] at hi
  have ec1 : ((n + 1 : Nat) : Int) = (n : Int) + 1 := by omega
  have ec2 : ((n + 1 + 1 : Nat) : Int) = (n : Int) + 1 + 1 := by omega
  have et1 : ((n : Int) + 1).toNat = n + 1 := by omega
  have et2 : ((n : Int) + 1 + 1).toNat = n + 1 + 1 := by omega
  have hn1 : n + 1 ≤ s.length := by omega
  have L0' := fun b0 => sset_loop0 s hs 3 b0 (s.length - (n + 1)) (n + 1) (by omega)
  have L1' := fun b0 r R => sset_loop1 s hs 3 b0 r R (s.length - (n + 1)) (n + 1) (by omega)
  simp only [mSet, hb, adv, List.drop_drop, hm]
  clear hb
  have he := cutLen_some _ _ y hm
  obtain ⟨h1, _⟩ := mCut_some _ _ y hm
  have hlen : s.length - (n + 1) = (b :: x).length + 1 + y.length := by
    have := congrArg List.length h1
    rw [List.length_drop] at this
    simp at this
    simp
    omega
  have hy : y = s.drop (n + 1 + (b :: x).length + 1) := by
    rw [show n + 1 + (b :: x).length + 1 = (n + 1) + ((b :: x).length + 1) by omega, ← List.drop_drop, h1, show (b :: x) ++ 93 :: y = ((b :: x) ++ [93]) ++ y by simp, List.drop_left' (by simp)]
  rw [he] at L0' L1'
  have q1 : eqI (((n + 1 + (b :: x).length : Nat)) : Int) (s.length : Int) = false := by
    simp only [eqI, decide_eq_false_iff_not]
    omega
  clear hm he h1
  have q2 : eqI (((n + 1 + (b :: x).length : Nat)) : Int) ((n : Int) + 1) = false := by
    simp only [eqI, decide_eq_false_iff_not, List.length_cons]
    omega
  have h3 : n + 1 < n + 1 + (b :: x).length := by simp
  have h4 : n + 1 + (b :: x).length < s.length := by omega
  generalize n + 1 + (b :: x).length = e at L0' L1' q1 q2 hy h3 h4
  have hp := fun t => sput_nil 3 t s (e + 1) false R0 hR
  have ee : ((e + 1 : Nat) : Int) = (e : Int) + 1 := by omega
  have hle : (e : Int) ≤ (s.length : Int) := by omega
  refine ⟨R0.length, e + 1, R0 ++ [[.v (.int .i64 (3)), .v (.string (B ((s.drop (n + 1)).take (e - (n + 1))))), .v (.slice none 0 0)]], ?_, by omega, hy, rfl, by simp, by omega⟩
  clear hR hy hlen
  cases R0
  all_goals
    simp only [hS, hT, ec1, ec2, ee] at hi hp L0' L1' q1 ⊢
    refine fnL_run rfl N86 Try.func86 U86 ?_; have o := o86; simp only [OE, opsR, cqR, subR, chi, Try.f86] at o
    (try simp (maxSteps := 4000000) (disch := first | assumption | omega) only [go_sem, *, arr_all, Option.isSome_some, hi, L0', L1', q1, q2, hp, et1, et2, Option.toArray, List.length_append, o, ↓bin_eqI, ↓bin_neI, Nat.reduceAdd, Nat.reduceSub, Nat.reduceMul, Nat.reduceBEq, Nat.reduceLeDiff, Nat.reduceLT, Nat.reduceDiv, Nat.reduceMod]); repeat' ((first | with_reducible first | refine caK (fun hb => ?_) fun hb => ?_ | refine caG (fun hb => ?_) fun hb => ?_ | refine caP (fun hb => ?_) fun hb => ?_ | refine caH (fun hb => ?_) fun hb => ?_ | refine caQ (fun hb => ?_) fun hb => ?_ | refine ite_cases (fun hb => ?_) fun hb => ?_ | rw [drwK_ok rfl]) <;> try simp (maxSteps := 4000000) (disch := first | assumption | omega) only [go_sem, *, arr_all, Option.isSome_some, hi, L0', L1', q1, q2, hp, et1, et2, Option.toArray, List.length_append, o, ↓bin_eqI, ↓bin_neI, Nat.reduceAdd, Nat.reduceSub, Nat.reduceMul, Nat.reduceBEq, Nat.reduceLeDiff, Nat.reduceLT, Nat.reduceDiv, Nat.reduceMod])
theorem sset_1a (M : Nat) (s : List UInt8) (n : Nat) (R0 : List (List D)) (hn : n < s.length) (hs : s.length ≤ 24) (hR : R0.length ≤ 59) (hb : nx 94 (s.drop (n + 1)) = true) (hm : mCut (s.drop (n + 1 + 1)) = none) : AnsS s M R0 (fnL Try.prog T L0 86 [.c (.ptr 0 0 0)] (hS s n false R0)) (fun n' a R => a = R0.length ∧ R.length = R0.length + 1 ∧ n + 2 < n') (mSet (s.drop (n + 1))) := by
  have e94 : ((94 : UInt8).toNat : Int) = 94 := rfl
  have hi := sis_ok 94 s (n + 1) (by omega) hs R0
  rw [e94, hb] at hi
  have ec1 : ((n + 1 : Nat) : Int) = (n : Int) + 1 := by omega
  have ec2 : ((n + 1 + 1 : Nat) : Int) = (n : Int) + 1 + 1 := by omega
  have et1 : ((n : Int) + 1).toNat = n + 1 := by omega
  have et2 : ((n : Int) + 1 + 1).toNat = n + 1 + 1 := by omega
  have hn1 : n + 1 + 1 ≤ s.length := by
    have := nx_true hb
    rw [ne_eq, List.drop_eq_nil_iff] at this
    omega
  have L0' := fun b0 => sset_loop0 s hs 4 b0 (s.length - (n + 1 + 1)) (n + 1 + 1) (by omega)
  have L1' := fun b0 r R => sset_loop1 s hs 4 b0 r R (s.length - (n + 1 + 1)) (n + 1 + 1) (by omega)
  simp only [mSet, hb, adv, List.drop_drop, hm]
  clear hb
  have he := cutLen_none _ hm
  rw [List.length_drop] at he
  have he2 : n + 1 + 1 + cutLen (s.drop (n + 1 + 1)) = s.length := by omega
  rw [he2] at L0' L1'
  refine ⟨0, hS s s.length true R0, ?_, .inl ⟨_, rfl⟩⟩
  clear hm he he2 hR
  cases R0
  all_goals
    simp only [hS, ec1, ec2] at hi L0' L1' ⊢
    refine fnL_run rfl N86 Try.func86 U86 ?_; have o := o86; simp only [OE, opsR, cqR, subR, chi, Try.f86] at o
    (try simp (maxSteps := 4000000) (disch := first | assumption | omega) only [go_sem, *, arr_all, Option.isSome_some, hi, L0', L1', o, ↓bin_eqI, ↓bin_neI, Nat.reduceAdd, Nat.reduceSub, Nat.reduceMul, Nat.reduceBEq, Nat.reduceLeDiff, Nat.reduceLT, Nat.reduceDiv, Nat.reduceMod]); repeat' ((first | with_reducible first | refine caK (fun hb => ?_) fun hb => ?_ | refine caG (fun hb => ?_) fun hb => ?_ | refine caP (fun hb => ?_) fun hb => ?_ | refine caH (fun hb => ?_) fun hb => ?_ | refine caQ (fun hb => ?_) fun hb => ?_ | refine ite_cases (fun hb => ?_) fun hb => ?_ | rw [drwK_ok rfl]) <;> try simp (maxSteps := 4000000) (disch := first | assumption | omega) only [go_sem, *, arr_all, Option.isSome_some, hi, L0', L1', o, ↓bin_eqI, ↓bin_neI, Nat.reduceAdd, Nat.reduceSub, Nat.reduceMul, Nat.reduceBEq, Nat.reduceLeDiff, Nat.reduceLT, Nat.reduceDiv, Nat.reduceMod])
theorem sset_1b (M : Nat) (s : List UInt8) (n : Nat) (R0 : List (List D)) (hn : n < s.length) (hs : s.length ≤ 24) (hR : R0.length ≤ 59) (hb : nx 94 (s.drop (n + 1)) = true) (y : List UInt8) (hm : mCut (s.drop (n + 1 + 1)) = some ([], y)) : AnsS s M R0 (fnL Try.prog T L0 86 [.c (.ptr 0 0 0)] (hS s n false R0)) (fun n' a R => a = R0.length ∧ R.length = R0.length + 1 ∧ n + 2 < n') (mSet (s.drop (n + 1))) := by
  have e94 : ((94 : UInt8).toNat : Int) = 94 := rfl
  have hi := sis_ok 94 s (n + 1) (by omega) hs R0
  rw [e94, hb] at hi
  have ec1 : ((n + 1 : Nat) : Int) = (n : Int) + 1 := by omega
  have ec2 : ((n + 1 + 1 : Nat) : Int) = (n : Int) + 1 + 1 := by omega
  have et1 : ((n : Int) + 1).toNat = n + 1 := by omega
  have et2 : ((n : Int) + 1 + 1).toNat = n + 1 + 1 := by omega
  have hn1 : n + 1 + 1 ≤ s.length := by
    have := nx_true hb
    rw [ne_eq, List.drop_eq_nil_iff] at this
    omega
  have L0' := fun b0 => sset_loop0 s hs 4 b0 (s.length - (n + 1 + 1)) (n + 1 + 1) (by omega)
  have L1' := fun b0 r R => sset_loop1 s hs 4 b0 r R (s.length - (n + 1 + 1)) (n + 1 + 1) (by omega)
  simp only [mSet, hb, adv, List.drop_drop, hm]
  clear hb
  have he := cutLen_some _ _ y hm
  obtain ⟨h1, _⟩ := mCut_some _ _ y hm
  have hlen : s.length - (n + 1 + 1) = ([] : List UInt8).length + 1 + y.length := by
    have := congrArg List.length h1
    rw [List.length_drop] at this
    simp at this
    simp
    omega
  have hy : y = s.drop (n + 1 + 1 + ([] : List UInt8).length + 1) := by
    rw [show n + 1 + 1 + ([] : List UInt8).length + 1 = (n + 1 + 1) + (([] : List UInt8).length + 1) by omega, ← List.drop_drop, h1, show ([] : List UInt8) ++ 93 :: y = (([] : List UInt8) ++ [93]) ++ y by simp, List.drop_left' (by simp)]
  rw [he] at L0' L1'
  have q1 : eqI (((n + 1 + 1 + ([] : List UInt8).length : Nat)) : Int) (s.length : Int) = false := by
    simp only [eqI, decide_eq_false_iff_not]
    omega
  clear hm he h1
  simp only [List.length_nil, Nat.add_zero] at L0' L1' q1
  refine ⟨0, hS s (n + 1 + 1) true R0, ?_, .inl ⟨_, rfl⟩⟩
  clear hR hy hlen
  cases R0
  all_goals
    simp only [hS, ec1, ec2] at hi L0' L1' q1 ⊢
    refine fnL_run rfl N86 Try.func86 U86 ?_; have o := o86; simp only [OE, opsR, cqR, subR, chi, Try.f86] at o
    (try simp (maxSteps := 4000000) (disch := first | assumption | omega) only [go_sem, *, arr_all, Option.isSome_some, hi, L0', L1', q1, o, ↓bin_eqI, ↓bin_neI, Nat.reduceAdd, Nat.reduceSub, Nat.reduceMul, Nat.reduceBEq, Nat.reduceLeDiff, Nat.reduceLT, Nat.reduceDiv, Nat.reduceMod]); repeat' ((first | with_reducible first | refine caK (fun hb => ?_) fun hb => ?_ | refine caG (fun hb => ?_) fun hb => ?_ | refine caP (fun hb => ?_) fun hb => ?_ | refine caH (fun hb => ?_) fun hb => ?_ | refine caQ (fun hb => ?_) fun hb => ?_ | refine ite_cases (fun hb => ?_) fun hb => ?_ | rw [drwK_ok rfl]) <;> try simp (maxSteps := 4000000) (disch := first | assumption | omega) only [go_sem, *, arr_all, Option.isSome_some, hi, L0', L1', q1, o, ↓bin_eqI, ↓bin_neI, Nat.reduceAdd, Nat.reduceSub, Nat.reduceMul, Nat.reduceBEq, Nat.reduceLeDiff, Nat.reduceLT, Nat.reduceDiv, Nat.reduceMod])
theorem sset_1c (M : Nat) (s : List UInt8) (n : Nat) (R0 : List (List D)) (hn : n < s.length) (hs : s.length ≤ 24) (hR : R0.length ≤ 59) (hb : nx 94 (s.drop (n + 1)) = true) (b : UInt8) (x y : List UInt8) (hm : mCut (s.drop (n + 1 + 1)) = some (b :: x, y)) : AnsS s M R0 (fnL Try.prog T L0 86 [.c (.ptr 0 0 0)] (hS s n false R0)) (fun n' a R => a = R0.length ∧ R.length = R0.length + 1 ∧ n + 2 < n') (mSet (s.drop (n + 1))) := by
  have e94 : ((94 : UInt8).toNat : Int) = 94 := rfl
  have hi := sis_ok 94 s (n + 1) (by omega) hs R0
  rw [e94, hb] at hi
  have ec1 : ((n + 1 : Nat) : Int) = (n : Int) + 1 := by omega
  have ec2 : ((n + 1 + 1 : Nat) : Int) = (n : Int) + 1 + 1 := by omega
  have et1 : ((n : Int) + 1).toNat = n + 1 := by omega
  have et2 : ((n : Int) + 1 + 1).toNat = n + 1 + 1 := by omega
  have hn1 : n + 1 + 1 ≤ s.length := by
    have := nx_true hb
    rw [ne_eq, List.drop_eq_nil_iff] at this
    omega
  have L0' := fun b0 => sset_loop0 s hs 4 b0 (s.length - (n + 1 + 1)) (n + 1 + 1) (by omega)
  have L1' := fun b0 r R => sset_loop1 s hs 4 b0 r R (s.length - (n + 1 + 1)) (n + 1 + 1) (by omega)
  simp only [mSet, hb, adv, List.drop_drop, hm]
  clear hb
  have he := cutLen_some _ _ y hm
  obtain ⟨h1, _⟩ := mCut_some _ _ y hm
  have hlen : s.length - (n + 1 + 1) = (b :: x).length + 1 + y.length := by
    have := congrArg List.length h1
    rw [List.length_drop] at this
    simp at this
    simp
    omega
  have hy : y = s.drop (n + 1 + 1 + (b :: x).length + 1) := by
    rw [show n + 1 + 1 + (b :: x).length + 1 = (n + 1 + 1) + ((b :: x).length + 1) by omega, ← List.drop_drop, h1, show (b :: x) ++ 93 :: y = ((b :: x) ++ [93]) ++ y by simp, List.drop_left' (by simp)]
  rw [he] at L0' L1'
  have q1 : eqI (((n + 1 + 1 + (b :: x).length : Nat)) : Int) (s.length : Int) = false := by
    simp only [eqI, decide_eq_false_iff_not]
    omega
  clear hm he h1
  have q2 : eqI (((n + 1 + 1 + (b :: x).length : Nat)) : Int) ((n : Int) + 1 + 1) = false := by
    simp only [eqI, decide_eq_false_iff_not, List.length_cons]
    omega
  have h3 : n + 1 + 1 < n + 1 + 1 + (b :: x).length := by simp
  have h4 : n + 1 + 1 + (b :: x).length < s.length := by omega
  generalize n + 1 + 1 + (b :: x).length = e at L0' L1' q1 q2 hy h3 h4
  have hp := fun t => sput_nil 4 t s (e + 1) false R0 hR
  have ee : ((e + 1 : Nat) : Int) = (e : Int) + 1 := by omega
  have hle : (e : Int) ≤ (s.length : Int) := by omega
  refine ⟨R0.length, e + 1, R0 ++ [[.v (.int .i64 (4)), .v (.string (B ((s.drop (n + 1 + 1)).take (e - (n + 1 + 1))))), .v (.slice none 0 0)]], ?_, by omega, hy, rfl, by simp, by omega⟩
  clear hR hy hlen
  cases R0
  all_goals
    simp only [hS, hT, ec1, ec2, ee] at hi hp L0' L1' q1 ⊢
    refine fnL_run rfl N86 Try.func86 U86 ?_; have o := o86; simp only [OE, opsR, cqR, subR, chi, Try.f86] at o
    (try simp (maxSteps := 4000000) (disch := first | assumption | omega) only [go_sem, *, arr_all, Option.isSome_some, hi, L0', L1', q1, q2, hp, et1, et2, Option.toArray, List.length_append, o, ↓bin_eqI, ↓bin_neI, Nat.reduceAdd, Nat.reduceSub, Nat.reduceMul, Nat.reduceBEq, Nat.reduceLeDiff, Nat.reduceLT, Nat.reduceDiv, Nat.reduceMod]); repeat' ((first | with_reducible first | refine caK (fun hb => ?_) fun hb => ?_ | refine caG (fun hb => ?_) fun hb => ?_ | refine caP (fun hb => ?_) fun hb => ?_ | refine caH (fun hb => ?_) fun hb => ?_ | refine caQ (fun hb => ?_) fun hb => ?_ | refine ite_cases (fun hb => ?_) fun hb => ?_ | rw [drwK_ok rfl]) <;> try simp (maxSteps := 4000000) (disch := first | assumption | omega) only [go_sem, *, arr_all, Option.isSome_some, hi, L0', L1', q1, q2, hp, et1, et2, Option.toArray, List.length_append, o, ↓bin_eqI, ↓bin_neI, Nat.reduceAdd, Nat.reduceSub, Nat.reduceMul, Nat.reduceBEq, Nat.reduceLeDiff, Nat.reduceLT, Nat.reduceDiv, Nat.reduceMod])
theorem sset_ok (M : Nat) (s : List UInt8) (n : Nat) (R0 : List (List D)) (hn : n < s.length) (hs : s.length ≤ 24) (hR : R0.length ≤ 59) : AnsS s M R0 (fnL Try.prog T L0 86 [.c (.ptr 0 0 0)] (hS s n false R0)) (fun n' a R => a = R0.length ∧ R.length = R0.length + 1 ∧ n + 2 < n') (mSet (s.drop (n + 1))) := by
  cases hb : nx 94 (s.drop (n + 1)) with
  | false =>
    cases hm : mCut (s.drop (n + 1)) with
    | none => exact sset_0a M s n R0 hn hs hR hb hm
    | some z =>
      obtain ⟨x, y⟩ := z
      cases x with
      | nil => exact sset_0b M s n R0 hn hs hR hb y hm
      | cons b x => exact sset_0c M s n R0 hn hs hR hb b x y hm
  | true =>
    cases hm : mCut (s.drop (n + 1 + 1)) with
    | none => exact sset_1a M s n R0 hn hs hR hb hm
    | some z =>
      obtain ⟨x, y⟩ := z
      cases x with
      | nil => exact sset_1b M s n R0 hn hs hR hb y hm
      | cons b x => exact sset_1c M s n R0 hn hs hR hb b x y hm
end
end Go.Vsi
