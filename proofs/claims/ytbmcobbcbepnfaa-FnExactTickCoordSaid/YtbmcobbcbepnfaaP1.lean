/- What the functions of the program, of the reference and of the law do (a part of it). -/
import Derived.Test.YtbmcobbcbepnfaaPY
import Derived.Lib.Bytealg
namespace Go.Vsi
open Go.Proofs
noncomputable section
set_option maxRecDepth 100000
set_option maxHeartbeats 4000000
set_option linter.unusedSimpArgs false
set_option linter.unusedVariables false
attribute [local go_sem] List.isEmpty_nil Bool.true_or Bool.and_true Bool.and_self Bool.false_eq_true Bool.not_true Bool.not_false List.set_cons_zero List.set_cons_succ frzSt wantedA evA constW ofVal plain oneOf noUp toVal cellVal putA startA List.length_cons List.length_nil List.map_cons List.map_nil List.replicate List.cons_append List.nil_append List.getElem?_cons_succ List.getElem?_cons_zero List.getElem?_toArray List.set upd Option.bind resA resOne giveA seenOf idsAt reach renH renW renV renS renB idsW idsV idsS frzW frzV frzS List.filter_nil List.range_zero List.flatMap_nil List.flatMap_cons List.append_nil List.range List.range.loop sliceLen intV List.length_map one partA ordOf canon junkBut List.elem_cons List.elem_nil Bool.false_or Bool.or_false Bool.or_true cond_true cond_false firstReg evL opTmps footA cut callOk List.all_nil List.all_cons Op.operands Array.toList List.filterMap_cons List.filterMap_nil lendCall ownCall lendVs lendV lendS plainW plainV plainS List.zipIdx_nil hpOf Array.toList_map idsB natBle beq_self_eq_true Int.toNat_natCast Option.map_some Option.map_none ix cellsV Nat.zero_add List.any_nil List.any_cons List.take_zero List.take_succ_cons List.take_nil List.drop_succ_cons List.drop_zero List.drop_nil toD toDs List.filter_cons Nat.zero_le Nat.le_refl frzH ite_true ite_false if_true if_false stpO_some opsO_nil opsO_cons stpD_some nthD_some drawO_nil drawO_cons decTrue decFalse callA natBeq decT decF B_size B_mk B_empty B_append B_extract decide_eq_true_eq Bool.not_eq_true' decide_eq_false_iff_not Bool.and_eq_true Bool.or_eq_true boundsA sliceA B_toList Bool.and_false Bool.false_and Bool.true_and backOf List.zipIdx_cons Option.getD_some Option.getD_none Nat.sub_self fillA rowsOf toRows List.flatten_cons List.flatten_nil appendA sliceRows lendSs capPtr opO_pick opO_move opO_assign opO_extract opO_nilCheck opO_unOp opO_binOp opO_convert opO_index opO_field opO_alloc opO_box opO_build opO_buildSlice opO_makeSlice opO_load opO_store opO_fieldAddr opO_indexAddr opO_slice opO_makeFunc opO_builtin opO_fn regK_some lopK_some lopK_ite map_get endA preK_some preA_cons preA_nil thenP_some pre1 preId preRow narRow narCell outOf dropOut setO renO toO toOs toRowsO nodupB isArrS nestT appendN narOuts O.flat Int.natCast_nonneg decide_true decide_false preR_some preD_some condK_true condK_false grdO_true grdO_false grdD_true grdD_false pickO_true pickO_false if_pos if_neg eqI_self eqI_t eqI_f true_and and_true and_self not_true_eq_false not_false_eq_true Bool.not_not Go.Call.operands closedB List.all_append List.filterMap_append Array.toList_append List.flatMap_append Bool.or_self List.getElem?_nil Bool.true_beq Bool.false_beq G50 I3 S3 C3 A3 B3 Try.underlying3 Z3 I5 S5 C5 A5 B5 Try.underlying5 Z5 I9 S9 C9 A9 B9 Try.underlying9 Z9 I104 S104 C104 A104 B104 Try.underlying104 E104 Z104 K50_4 O50_4 R50 M50
attribute [local go_sem ↓] ite_dec popK_nil popK_seq popK_seqE popK_seqR popK_blk popK_blkR popK_blkE endF_normal endF_ret q50_ q50_0 q50_1 q50_10 q50_100 q50_101 q50_1010 q50_10100 q50_10101 q50_1011 q50_11 q50_110 q50_111 q50_1110 q50_11100 q50_111000 q50_1110000 q50_11100000 q50_11100001 q50_111000010 q50_111000011 q50_1110001 q50_11100010 q50_111000100 q50_111000101 q50_1111 q50_11110 q50_11111 bin_add bin_sub bin_mul bin_lss bin_leq bin_gtr bin_geq un_not min_int max_int wrap64' wrap_u8 wrap_i32 wrap64_byte wrap8_byte wrap32_byte bin_eqB bin_neB bin_addB CV3_5 IX9
abbrev J : W := .one .junk
theorem BC_ndec {p : Prop} [Decidable p] : BC (!decide p) (¬ p) p := BC_not BC_dec
theorem BC_nb {b : Bool} : BC (!b) (b = false) (b = true) := BC_not BC_b
theorem bin_add1 {P : Program} (t : TypeId) (x y : Operand) (a : UInt8) (b : List UInt8) (h : b.length ≤ 9223372036854775806) : pure1 P (do eqGuard .add t x y (.string (B [a])) (.string (B b)); binOp .add t (.string (B [a])) (.string (B b))) = some (.one (.c (.d (.v (.string (B (a :: b))))))) :=
  bin_addB t x y [a] b (by simp; omega)
theorem drwK_ok {P : Program} {T : Tab} {call : Call} {f : FuncId} {α : Type} {F : Ex → St → Option α} {ks : List Kt} {ops : List Oper} {ord : List Nat} {n next io : Nat} {tm tm' : List W} {h h' : Hp} {rs : List Rec} (hp : pairsOk ops ord rs = true) : drwK P T call f F ops ord n ⟨tm', h', next, io⟩ ks (some (tm, h, rs)) = popK P T call f F ks .normal ⟨tm, h, next + n * 64, io⟩ := by
  rw [drwK_some, hp]
theorem pure1_int {P : Program} (k : IntKind) (n : Int) : pure1 P (do pure (); pure (Value.int k n)) = some (.one (.c (.d (.v (.int k n))))) := rfl
theorem arr_all {α : Type} (l : List α) (p : α → Bool) : (l.toArray).all p = l.all p := by simp
def L0 : Call := fun _ _ _ => none
/-! A number's text -/
def mkd : Nat → Int → List UInt8 → List UInt8
  | 0, _, o => o
  | f + 1, k, o => if k ≤ 0 then o else mkd f (k.tdiv 10) (UInt8.ofNat (48 + k.tmod 10).toNat :: o)
theorem mkd_len : ∀ (f : Nat) (k : Int) (o : List UInt8), (mkd f k o).length ≤ f + o.length
  | 0, _, _ => by simp [mkd]
  | f + 1, k, o => by
    unfold mkd
    split
    · omega
    · have := mkd_len f (k.tdiv 10) (UInt8.ofNat (48 + k.tmod 10).toNat :: o)
      simp at this
      omega
theorem div10 (k : Int) (h : 0 < k) : 0 ≤ k.tdiv 10 ∧ k.tdiv 10 * 10 ≤ k ∧ 0 ≤ k.tmod 10 ∧ k.tmod 10 < 10 := by
  rw [Int.tdiv_eq_ediv_of_nonneg (by omega), Int.tmod_eq_emod_of_nonneg (by omega)]
  omega
theorem markText_loop : ∀ (f : Nat) (k : Int) (o : List UInt8), 0 ≤ k → k < 10 ^ f → f ≤ 18 → o.length + f ≤ 100 →
    loopC Try.prog T (fnL Try.prog T L0) 50 (cq g50 [0, 0, 0, 1, 1, 1]) ⟨[.one (.c (.d (.v (.int .i64 (k))))), J, J, .one (.c (.d (.v (.string (B (o)))))), J, J, J, J, J, J, J, J, J, J, J, J, J, J, J, J], hpOf [], 0, 0⟩ = some (.exit 0, ⟨[J, J, J, .one (.c (.d (.v (.string (B (mkd f k o)))))), J, J, J, J, J, J, J, J, J, J, J, J, J, J, J, J], hpOf [], 0, 0⟩)
  | 0, k, o, h0, h1, hf, ho => by
    have hk : k = 0 := by simp at h1; omega
    subst hk
    simp only [mkd]
    have o := o50_111000; simp only [OE, opsR, cqR, subR, chi, Try.f50] at o
    rw [loopC_round]
    (try simp (maxSteps := 4000000) (disch := first | assumption | omega) only [go_sem, *, o, ↓bin_eqI, ↓bin_neI, Nat.reduceAdd, Nat.reduceSub, Nat.reduceMul, Nat.reduceBEq, Nat.reduceLeDiff, Nat.reduceLT, Nat.reduceDiv, Nat.reduceMod]); repeat' ((first | with_reducible first | refine caK (fun hb => ?_) fun hb => ?_ | refine caG (fun hb => ?_) fun hb => ?_ | refine caP (fun hb => ?_) fun hb => ?_ | refine caH (fun hb => ?_) fun hb => ?_ | refine caQ (fun hb => ?_) fun hb => ?_ | refine ite_cases (fun hb => ?_) fun hb => ?_ | rw [drwK_ok rfl]) <;> try simp (maxSteps := 4000000) (disch := first | assumption | omega) only [go_sem, *, o, ↓bin_eqI, ↓bin_neI, Nat.reduceAdd, Nat.reduceSub, Nat.reduceMul, Nat.reduceBEq, Nat.reduceLeDiff, Nat.reduceLT, Nat.reduceDiv, Nat.reduceMod])
  | f + 1, k, o, h0, h1, hf, ho => by
    by_cases hk : k = 0
    · subst hk
      simp only [mkd, Int.le_refl, if_true]
      have o := o50_111000; simp only [OE, opsR, cqR, subR, chi, Try.f50] at o
      rw [loopC_round]
      (try simp (maxSteps := 4000000) (disch := first | assumption | omega) only [go_sem, *, o, ↓bin_eqI, ↓bin_neI, Nat.reduceAdd, Nat.reduceSub, Nat.reduceMul, Nat.reduceBEq, Nat.reduceLeDiff, Nat.reduceLT, Nat.reduceDiv, Nat.reduceMod]); repeat' ((first | with_reducible first | refine caK (fun hb => ?_) fun hb => ?_ | refine caG (fun hb => ?_) fun hb => ?_ | refine caP (fun hb => ?_) fun hb => ?_ | refine caH (fun hb => ?_) fun hb => ?_ | refine caQ (fun hb => ?_) fun hb => ?_ | refine ite_cases (fun hb => ?_) fun hb => ?_ | rw [drwK_ok rfl]) <;> try simp (maxSteps := 4000000) (disch := first | assumption | omega) only [go_sem, *, o, ↓bin_eqI, ↓bin_neI, Nat.reduceAdd, Nat.reduceSub, Nat.reduceMul, Nat.reduceBEq, Nat.reduceLeDiff, Nat.reduceLT, Nat.reduceDiv, Nat.reduceMod])
    · obtain ⟨d1, d2, d3, d4⟩ := div10 k (by omega)
      have hp : k < 10 * 10 ^ f := by rw [Int.pow_succ] at h1; omega
      have hmax : (10 : Int) ^ f ≤ 10 ^ 17 := by
        have : f ≤ 17 := by omega
        exact_mod_cast Nat.pow_le_pow_right (by omega) this
      have ih := markText_loop f (k.tdiv 10) (UInt8.ofNat (48 + k.tmod 10).toNat :: o) d1 (by omega) (by omega) (by simp; omega)
      have hn : (10 : Int) ≠ 0 := by decide
      have e : mkd (f + 1) k o = mkd f (k.tdiv 10) (UInt8.ofNat (48 + k.tmod 10).toNat :: o) := by
        rw [mkd, if_neg (by omega)]
      rw [e]
      clear e hp
      generalize hq : k.tdiv 10 = q at ih d1 d2
      generalize hr : k.tmod 10 = r at ih d3 d4
      have hb : k ≤ 1000000000000000000 := by omega
      clear hmax h1
      have o := o50_111000; simp only [OE, opsR, cqR, subR, chi, Try.f50] at o
      rw [loopC_round]
      (try simp (maxSteps := 4000000) (disch := first | assumption | omega) only [go_sem, *, ih, ↓bin_rem, ↓bin_quo, hq, hr, ↓bin_add1, sliceRows, List.mapM_cons, List.mapM_nil, Option.bind_eq_bind, Option.pure_def, Option.bind_some, List.toList_toArray, rowsOf, toRows, toDs, toD, o, ↓bin_eqI, ↓bin_neI, Nat.reduceAdd, Nat.reduceSub, Nat.reduceMul, Nat.reduceBEq, Nat.reduceLeDiff, Nat.reduceLT, Nat.reduceDiv, Nat.reduceMod]); repeat' ((first | with_reducible first | refine caK (fun hb => ?_) fun hb => ?_ | refine caG (fun hb => ?_) fun hb => ?_ | refine caP (fun hb => ?_) fun hb => ?_ | refine caH (fun hb => ?_) fun hb => ?_ | refine caQ (fun hb => ?_) fun hb => ?_ | refine ite_cases (fun hb => ?_) fun hb => ?_ | rw [drwK_ok rfl]) <;> try simp (maxSteps := 4000000) (disch := first | assumption | omega) only [go_sem, *, ih, ↓bin_rem, ↓bin_quo, hq, hr, ↓bin_add1, sliceRows, List.mapM_cons, List.mapM_nil, Option.bind_eq_bind, Option.pure_def, Option.bind_some, List.toList_toArray, rowsOf, toRows, toDs, toD, o, ↓bin_eqI, ↓bin_neI, Nat.reduceAdd, Nat.reduceSub, Nat.reduceMul, Nat.reduceBEq, Nat.reduceLeDiff, Nat.reduceLT, Nat.reduceDiv, Nat.reduceMod])
def mT (k : Int) : List UInt8 := if k ≤ 0 then [109, 48] else 109 :: mkd 18 k []
theorem markText_ok (k : Int) (h : k ≤ 1000000000) : fnL Try.prog T L0 50 [.c (.d (.v (.int .i64 (k))))] [] = some (.one (.c (.d (.v (.string (B (mT k)))))), []) := by
  unfold mT
  by_cases hk : k ≤ 0
  · rw [if_pos hk]
    refine fnL_run rfl N50 Try.func50 U50 ?_; have o := o50; simp only [OE, opsR, cqR, subR, chi, Try.f50] at o
    (try simp (maxSteps := 4000000) (disch := first | assumption | omega) only [go_sem, *, o, ↓bin_eqI, ↓bin_neI, Nat.reduceAdd, Nat.reduceSub, Nat.reduceMul, Nat.reduceBEq, Nat.reduceLeDiff, Nat.reduceLT, Nat.reduceDiv, Nat.reduceMod]); repeat' ((first | with_reducible first | refine caK (fun hb => ?_) fun hb => ?_ | refine caG (fun hb => ?_) fun hb => ?_ | refine caP (fun hb => ?_) fun hb => ?_ | refine caH (fun hb => ?_) fun hb => ?_ | refine caQ (fun hb => ?_) fun hb => ?_ | refine ite_cases (fun hb => ?_) fun hb => ?_ | rw [drwK_ok rfl]) <;> try simp (maxSteps := 4000000) (disch := first | assumption | omega) only [go_sem, *, o, ↓bin_eqI, ↓bin_neI, Nat.reduceAdd, Nat.reduceSub, Nat.reduceMul, Nat.reduceBEq, Nat.reduceLeDiff, Nat.reduceLT, Nat.reduceDiv, Nat.reduceMod])
  · rw [if_neg hk]
    have L := markText_loop 18 k [] (by omega) (by omega) (by omega) (by simp)
    have hl := mkd_len 18 k []
    generalize mkd 18 k [] = s at L hl
    simp at hl
    refine fnL_run rfl N50 Try.func50 U50 ?_; have o := o50; simp only [OE, opsR, cqR, subR, chi, Try.f50] at o
    (try simp (maxSteps := 4000000) (disch := first | assumption | omega) only [go_sem, *, L, ↓bin_add1, o, ↓bin_eqI, ↓bin_neI, Nat.reduceAdd, Nat.reduceSub, Nat.reduceMul, Nat.reduceBEq, Nat.reduceLeDiff, Nat.reduceLT, Nat.reduceDiv, Nat.reduceMod]); repeat' ((first | with_reducible first | refine caK (fun hb => ?_) fun hb => ?_ | refine caG (fun hb => ?_) fun hb => ?_ | refine caP (fun hb => ?_) fun hb => ?_ | refine caH (fun hb => ?_) fun hb => ?_ | refine caQ (fun hb => ?_) fun hb => ?_ | refine ite_cases (fun hb => ?_) fun hb => ?_ | rw [drwK_ok rfl]) <;> try simp (maxSteps := 4000000) (disch := first | assumption | omega) only [go_sem, *, L, ↓bin_add1, o, ↓bin_eqI, ↓bin_neI, Nat.reduceAdd, Nat.reduceSub, Nat.reduceMul, Nat.reduceBEq, Nat.reduceLeDiff, Nat.reduceLT, Nat.reduceDiv, Nat.reduceMod])
theorem mid_get {α : Type} (A : List α) (x : α) (B : List α) (n : Nat) (h : n = A.length) : (A ++ x :: B)[n]? = some x := by subst h; simp
theorem mid_set {α : Type} (A : List α) (x y : α) (B : List α) (n : Nat) (h : n = A.length) : (A ++ x :: B).set n y = A ++ y :: B := by subst h; simp
theorem set_same {α : Type} (l : List α) (i : Nat) (x : α) (h : l[i]? = some x) : l.set i x = l := by
  apply List.ext_getElem?
  intro j
  rw [List.getElem?_set]
  split
  · rename_i e
    subst e
    rw [if_pos (List.getElem?_eq_some_iff.1 h).1, h]
  · rfl

def rS (xs : List (List UInt8)) : List (List D) := xs.map fun y => [.v (.string (B (y)))]
theorem rS_len (xs : List (List UInt8)) : (rS xs).length = xs.length := by simp [rS]
theorem rS_tk (xs : List (List UInt8)) : (rS xs).take xs.length = rS xs := List.take_of_length_le (by rw [rS_len]; omega)
theorem rS_all (xs : List (List UInt8)) : (rS xs).all (fun r => r.length == 1) = true := by simp [rS]
theorem rS_get (xs : List (List UInt8)) (i : Nat) (h : i < xs.length) : (rS xs)[i]? = some ([.v (.string (B (xs[i])))]) := map_get xs _ i h
theorem rS_nil : rS [] = [] := rfl
theorem rS_cons (x : List UInt8) (xs : List (List UInt8)) : rS (x :: xs) = ([.v (.string (B (x)))]) :: rS xs := rfl

def rIn (xs : List (GInstr)) : List (List D) := xs.map fun y => GInstr.enc y
theorem rIn_len (xs : List (GInstr)) : (rIn xs).length = xs.length := by simp [rIn]
theorem rIn_tk (xs : List (GInstr)) : (rIn xs).take xs.length = rIn xs := List.take_of_length_le (by rw [rIn_len]; omega)
theorem rIn_all (xs : List (GInstr)) : (rIn xs).all (fun r => r.length == 2) = true := by simp [rIn, GInstr.enc]
theorem rIn_get (xs : List (GInstr)) (i : Nat) (h : i < xs.length) : (rIn xs)[i]? = some (GInstr.enc xs[i]) := map_get xs _ i h
theorem rIn_nil : rIn [] = [] := rfl
theorem rIn_cons (x : GInstr) (xs : List (GInstr)) : rIn (x :: xs) = (GInstr.enc x) :: rIn xs := rfl

def rV (xs : List (GVar)) : List (List D) := xs.map fun y => GVar.enc y
theorem rV_len (xs : List (GVar)) : (rV xs).length = xs.length := by simp [rV]
theorem rV_tk (xs : List (GVar)) : (rV xs).take xs.length = rV xs := List.take_of_length_le (by rw [rV_len]; omega)
theorem rV_all (xs : List (GVar)) : (rV xs).all (fun r => r.length == 2) = true := by simp [rV, GVar.enc]
theorem rV_get (xs : List (GVar)) (i : Nat) (h : i < xs.length) : (rV xs)[i]? = some (GVar.enc xs[i]) := map_get xs _ i h
theorem rV_nil : rV [] = [] := rfl
theorem rV_cons (x : GVar) (xs : List (GVar)) : rV (x :: xs) = (GVar.enc x) :: rV xs := rfl

def rC (xs : List (GCell)) : List (List D) := xs.map fun y => GCell.enc y
theorem rC_len (xs : List (GCell)) : (rC xs).length = xs.length := by simp [rC]
theorem rC_tk (xs : List (GCell)) : (rC xs).take xs.length = rC xs := List.take_of_length_le (by rw [rC_len]; omega)
theorem rC_all (xs : List (GCell)) : (rC xs).all (fun r => r.length == 3) = true := by simp [rC, GCell.enc]
theorem rC_get (xs : List (GCell)) (i : Nat) (h : i < xs.length) : (rC xs)[i]? = some (GCell.enc xs[i]) := map_get xs _ i h
theorem rC_nil : rC [] = [] := rfl
theorem rC_cons (x : GCell) (xs : List (GCell)) : rC (x :: xs) = (GCell.enc x) :: rC xs := rfl

def rT (xs : List (GTask)) : List (List D) := xs.map fun y => GTask.enc y
theorem rT_len (xs : List (GTask)) : (rT xs).length = xs.length := by simp [rT]
theorem rT_tk (xs : List (GTask)) : (rT xs).take xs.length = rT xs := List.take_of_length_le (by rw [rT_len]; omega)
theorem rT_all (xs : List (GTask)) : (rT xs).all (fun r => r.length == 7) = true := by simp [rT, GTask.enc]
theorem rT_get (xs : List (GTask)) (i : Nat) (h : i < xs.length) : (rT xs)[i]? = some (GTask.enc xs[i]) := map_get xs _ i h
theorem rT_nil : rT [] = [] := rfl
theorem rT_cons (x : GTask) (xs : List (GTask)) : rT (x :: xs) = (GTask.enc x) :: rT xs := rfl

theorem encStore (x : GStore) : x.enc = [.sl 2 (rV x.Vars), .sl 3 (rC x.Cells), .v (.string (B (x.Out)))] := rfl
theorem encCode (x : GCode) : x.enc = [.sl 1 (rS x.Texts), .sl 2 (rIn x.List), .v (.int .i64 (x.Begin)), .v (.int .i64 (x.Line)), .v (.int .i64 (x.End))] := rfl
theorem encTask (x : GTask) : x.enc = [.sl 1 (rS x.Lines), .v (.int .i64 (x.Try)), .v (.int .i64 (x.Until)), .v (.bool (x.Done)), .sl 2 (rV x.Delta.Vars), .sl 3 (rC x.Delta.Cells), .v (.string (B (x.Delta.Out)))] := rfl
theorem encCoord (x : GCoord) : x.enc = [.sl 1 (rS x.Code.Texts), .sl 2 (rIn x.Code.List), .v (.int .i64 (x.Code.Begin)), .v (.int .i64 (x.Code.Line)), .v (.int .i64 (x.Code.End)), .sl 1 (rS x.Names), .sl 2 (rV x.Begin.Vars), .sl 3 (rC x.Begin.Cells), .v (.string (B (x.Begin.Out))), .v (.int .i64 (x.Count)), .sl 7 (rT x.Tasks), .v (.int .i64 (x.Now)), .v (.int .i64 (x.Tries)), .v (.bool (x.Over)), .sl 2 (rV x.Final.Vars), .sl 3 (rC x.Final.Cells), .v (.string (B (x.Final.Out)))] := rfl
/-! Rows that own their slices -/
def oTask (x : GTask) : List O := [.own 1 (rS x.Lines), .d (.v (.int .i64 (x.Try))), .d (.v (.int .i64 (x.Until))), .d (.v (.bool (x.Done))), .own 2 (rV x.Delta.Vars), .own 3 (rC x.Delta.Cells), .d (.v (.string (B (x.Delta.Out))))]
def oT (xs : List GTask) : List (List O) := xs.map oTask
theorem oT_len (xs : List GTask) : (oT xs).length = xs.length := by simp [oT]
theorem oT_tk (xs : List GTask) : (oT xs).take xs.length = oT xs := List.take_of_length_le (by rw [oT_len]; omega)
theorem oT_get (xs : List GTask) (i : Nat) (h : i < xs.length) : (oT xs)[i]? = some (oTask xs[i]) := map_get xs _ i h
theorem oT_nil : oT [] = [] := rfl
theorem oT_cons (x : GTask) (xs : List GTask) : oT (x :: xs) = oTask x :: oT xs := rfl
theorem oT_flat (xs : List GTask) : (oT xs).map (List.map O.flat) = rT xs := by
  simp only [oT, rT, List.map_map]
  rfl
/-! Measures -/
def szr (l t : Int) : Int := if l < t then -1 else l - t
theorem szr_lt {l t : Int} (h : l < t) : szr l t = -1 := if_pos h
theorem szr_ge {l t : Int} (h : ¬ l < t) : szr l t = l - t := if_neg h
def tS : List (List UInt8) → Int
  | [] => 0
  | x :: xs => x.length + tS xs
def tEV (x : GVar) : Int := x.Name.length + x.Val.length
def tV : List GVar → Int
  | [] => 0
  | x :: xs => tEV x + tV xs
def tEC (x : GCell) : Int := x.Name.length + x.Key.length + x.Val.length
def tC : List GCell → Int
  | [] => 0
  | x :: xs => tEC x + tC xs
def tStore (x : GStore) : Int := (x.Vars.length + tV x.Vars) + (x.Cells.length + tC x.Cells) + x.Out.length
def tCode (x : GCode) : Int := (x.Texts.length + tS x.Texts) + x.List.length
def tET (x : GTask) : Int := (x.Lines.length + tS x.Lines) + tStore x.Delta
def tT : List GTask → Int
  | [] => 0
  | x :: xs => tET x + tT xs
def tCoord (x : GCoord) : Int := tCode x.Code + (x.Names.length + tS x.Names) + tStore x.Begin + (x.Tasks.length + tT x.Tasks) + tStore x.Final
theorem tS_ge : ∀ xs, 0 ≤ tS xs
  | [] => Int.le_refl _
  | x :: xs => by have := tS_ge xs; unfold tS; omega
theorem tEV_ge (x : GVar) : 0 ≤ tEV x := by unfold tEV; omega
theorem tV_ge : ∀ xs, 0 ≤ tV xs
  | [] => Int.le_refl _
  | x :: xs => by have := tV_ge xs; have := tEV_ge x; unfold tV; omega
theorem tEC_ge (x : GCell) : 0 ≤ tEC x := by unfold tEC; omega
theorem tC_ge : ∀ xs, 0 ≤ tC xs
  | [] => Int.le_refl _
  | x :: xs => by have := tC_ge xs; have := tEC_ge x; unfold tC; omega
theorem tStore_ge (x : GStore) : 0 ≤ tStore x := by have := tV_ge x.Vars; have := tC_ge x.Cells; unfold tStore; omega
theorem tCode_ge (x : GCode) : 0 ≤ tCode x := by have := tS_ge x.Texts; unfold tCode; omega
theorem tET_ge (x : GTask) : 0 ≤ tET x := by have := tS_ge x.Lines; have := tStore_ge x.Delta; unfold tET; omega
theorem tT_ge : ∀ xs, 0 ≤ tT xs
  | [] => Int.le_refl _
  | x :: xs => by have := tT_ge xs; have := tET_ge x; unfold tT; omega
end
end Go.Vsi
