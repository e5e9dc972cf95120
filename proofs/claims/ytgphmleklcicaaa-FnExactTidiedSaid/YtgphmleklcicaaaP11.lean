/- What the functions of the program, of the reference and of the law do (a part of it). -/
import Derived.Test.YtgphmleklcicaaaP10
import Derived.Test.YtgphmleklcicaaaP3
namespace Go.Vsi
open Go.Proofs
noncomputable section
set_option maxRecDepth 100000
set_option maxHeartbeats 4000000
set_option linter.unusedSimpArgs false
set_option linter.unusedVariables false
attribute [local go_sem ↓] IX9
theorem pieceOk_ok (op : Int) (t : List UInt8) (ks : List Int) (n : Int) (h : pOK op t ks n = true) (hn : 0 ≤ n ∧ n ≤ maxLen) : fnL Try.prog T L0 73 [.agg ((row op t ks).map .d), .c (.d (.v (.int .i64 (n))))] [] = some (.one (.c (.d (.v (.bool (true))))), []) := by
  have : maxLen = 9223372036854775807 := rfl
  unfold pOK at h
  simp only [Bool.and_eq_true, decide_eq_true_eq] at h
  obtain ⟨⟨⟨h1, h2⟩, h3⟩, h4⟩ := h
  have hk : ks.length ≤ 2 := by rw [h3]; unfold kidsNum; split <;> (try split) <;> omega
  have hA := kidsAhead_ok ks n (by omega) hn
  rw [h4] at hA
  have hl : (rI ks).length = ks.length := by simp [rI]
  rw [h3] at hl
  clear h4 h3 hk
  have hop : op = 1 ∨ op = 2 ∨ op = 3 ∨ op = 4 ∨ op = 5 ∨ op = 6 ∨ op = 7 ∨ op = 8 ∨ op = 9 ∨ op = 10 ∨ op = 11 ∨ op = 12 := by omega
  clear h1
  have e : kidsNum 1 = 0 ∧ kidsNum 2 = 0 ∧ kidsNum 3 = 0 ∧ kidsNum 4 = 0 ∧ kidsNum 5 = 2 ∧ kidsNum 6 = 2 ∧ kidsNum 7 = 1 ∧ kidsNum 8 = 1 ∧ kidsNum 9 = 1 ∧ kidsNum 10 = 0 ∧ kidsNum 11 = 0 ∧ kidsNum 12 = 0 := ⟨rfl, rfl, rfl, rfl, rfl, rfl, rfl, rfl, rfl, rfl, rfl, rfl⟩
  rcases hop with rfl | rfl | rfl | rfl | rfl | rfl | rfl | rfl | rfl | rfl | rfl | rfl
  all_goals
    simp [textFit] at h2
    simp only [e] at hl
    try subst h2
    clear e
    refine nfW true (fun _ => W73.2) W73.1 Try.func73 rfl rfl fun c ht hr => ?_; simp only [okW, List.length_cons, List.length_nil, Nat.reduceAdd, firstReg, and_true] at c; (try simp (maxSteps := 4000000) (disch := first | assumption | omega) only [go_sem, *, row, within_ok, hA, hl, ↓bin_eqI, ↓bin_neI, Nat.reduceAdd, Nat.reduceSub, Nat.reduceMul, Nat.reduceBEq, Nat.reduceLeDiff, Nat.reduceLT, Nat.reduceDiv, Nat.reduceMod]); repeat' ((first | with_reducible first | refine caK (fun hb => ?_) fun hb => ?_ | refine caG (fun hb => ?_) fun hb => ?_ | refine caP (fun hb => ?_) fun hb => ?_ | refine caH (fun hb => ?_) fun hb => ?_ | refine caQ (fun hb => ?_) fun hb => ?_ | refine ite_cases (fun hb => ?_) fun hb => ?_ | rw [drwK_ok rfl]) <;> try simp (maxSteps := 4000000) (disch := first | assumption | omega) only [go_sem, *, row, within_ok, hA, hl, ↓bin_eqI, ↓bin_neI, Nat.reduceAdd, Nat.reduceSub, Nat.reduceMul, Nat.reduceBEq, Nat.reduceLeDiff, Nat.reduceLT, Nat.reduceDiv, Nat.reduceMod])
theorem patternOk_loop (R : List (List D)) (h : RowsOK R) (hl : R.length ≤ 60) : ∀ (m : Nat) (i : Int), 0 ≤ i → i + m = R.length →
    loopC Try.prog T (fnL Try.prog T L0) 64 (cq Try.f64 [0, 0, 1, 0, 1]) ⟨[J, .one (.c (.ptr 1 0 0)), J, J, J, J, .one (.c (.arr 0 0 R.length)), .one (.c (.d (.v (.int .i64 ((R.length : Int)))))), .one (.c (.d (.v (.int .i64 (i))))), J, J, J, J, J, J, J, J, J, J, J, J, J], hpOf [some (.arr 3 R), some (.var [.arr 0 0 R.length])], 2, 1⟩ =
      some (.exit 0, ⟨[J, .one (.c (.ptr 1 0 0)), J, J, J, J, J, J, J, J, J, J, J, J, J, J, J, J, J, J, J, J], hpOf [some (.arr 3 R), some (.var [.arr 0 0 R.length])], 2, 1⟩)
  | 0, i, h0, hm => by
    clear h
    exact lp W64
  | m + 1, i, h0, hm => by
    have : maxLen = 9223372036854775807 := rfl
    have ih := patternOk_loop R h hl m (i + 1) (by omega) (by omega)
    have hil : i.toNat < R.length := by omega
    have hg := List.getElem?_eq_getElem hil
    obtain ⟨op, t, ks, hr, hp⟩ := h i.toNat _ hg
    rw [hr] at hg
    rw [show ((i.toNat : Nat) : Int) = i by omega] at hp
    have hk := pieceOk_ok op t ks i hp ⟨h0, by omega⟩
    simp only [row, List.map_cons, List.map_nil] at hk hg
    clear h hr hp
    exact lp W64
theorem patternOk_ok (R : List (List D)) (h : RowsOK R) (h1 : 1 ≤ R.length) (hl : R.length ≤ 60) : fnL Try.prog T L0 64 [.agg [.arr 0 0 R.length]] [some (.arr 3 R)] = some (.one (.c (.d (.v (.bool (true))))), [some (.arr 3 R)]) := by
  have L := patternOk_loop R h hl R.length 0 (by omega) (by omega)
  clear h
  refine nfW true (fun _ => W64.2) W64.1 Try.func64 rfl rfl fun c ht hr => ?_; simp only [okW, List.length_cons, List.length_nil, Nat.reduceAdd, firstReg, and_true] at c; (try simp (maxSteps := 4000000) (disch := first | assumption | omega) only [go_sem, *, L, within_ok, ↓bin_eqI, ↓bin_neI, Nat.reduceAdd, Nat.reduceSub, Nat.reduceMul, Nat.reduceBEq, Nat.reduceLeDiff, Nat.reduceLT, Nat.reduceDiv, Nat.reduceMod]); repeat' ((first | with_reducible first | refine caK (fun hb => ?_) fun hb => ?_ | refine caG (fun hb => ?_) fun hb => ?_ | refine caP (fun hb => ?_) fun hb => ?_ | refine caH (fun hb => ?_) fun hb => ?_ | refine caQ (fun hb => ?_) fun hb => ?_ | refine ite_cases (fun hb => ?_) fun hb => ?_ | rw [drwK_ok rfl]) <;> try simp (maxSteps := 4000000) (disch := first | assumption | omega) only [go_sem, *, L, within_ok, ↓bin_eqI, ↓bin_neI, Nat.reduceAdd, Nat.reduceSub, Nat.reduceMul, Nat.reduceBEq, Nat.reduceLeDiff, Nat.reduceLT, Nat.reduceDiv, Nat.reduceMod])
/-- Is there a pattern? -/
def rdP (s : List UInt8) : Bool := decide (1 ≤ (s.length : Int) ∧ (s.length : Int) ≤ 24) && (match mAlt 150 s with | some r => r.isEmpty | none => false)
theorem rdP_le (s : List UInt8) (h : rdP s = true) : s.length ≤ 24 := by
  unfold rdP at h
  simp only [Bool.and_eq_true, decide_eq_true_eq] at h
  omega
theorem readPattern_ok : Reads 51 rdP := by
  intro s hs
  unfold rdP
  have : maxLen = 9223372036854775807 := rfl
  by_cases hlen : 1 ≤ (s.length : Int) ∧ (s.length : Int) ≤ 24
  · have hA := (all_of 150).1 s [] (by omega) (fun i r hr => by simp at hr) (by simp; omega) (by omega)
    simp only [decT hlen, Bool.true_and]
    cases hm : mAlt 150 s with
    | none =>
      rw [hm] at hA
      obtain ⟨w, bs, e, hbs⟩ := hA
      refine ⟨.v (.slice none 0 0), ?_⟩
      clear hm
      rcases hbs with ⟨l', rfl⟩ | ⟨l', R, z1, z2, rfl⟩
      all_goals
        simp only [hP, hQ] at e
        refine nfW true (fun _ => W51.2) W51.1 Try.func51 rfl rfl fun c ht hr => ?_; simp only [okW, List.length_cons, List.length_nil, Nat.reduceAdd, firstReg, and_true] at c; (try simp (maxSteps := 4000000) (disch := first | assumption | omega) only [go_sem, *, e, within_ok, arr_all, Option.isSome_some, resOnes, ↓bin_eqI, ↓bin_neI, Nat.reduceAdd, Nat.reduceSub, Nat.reduceMul, Nat.reduceBEq, Nat.reduceLeDiff, Nat.reduceLT, Nat.reduceDiv, Nat.reduceMod]); repeat' ((first | with_reducible first | refine caK (fun hb => ?_) fun hb => ?_ | refine caG (fun hb => ?_) fun hb => ?_ | refine caP (fun hb => ?_) fun hb => ?_ | refine caH (fun hb => ?_) fun hb => ?_ | refine caQ (fun hb => ?_) fun hb => ?_ | refine ite_cases (fun hb => ?_) fun hb => ?_ | rw [drwK_ok rfl]) <;> try simp (maxSteps := 4000000) (disch := first | assumption | omega) only [go_sem, *, e, within_ok, arr_all, Option.isSome_some, resOnes, ↓bin_eqI, ↓bin_neI, Nat.reduceAdd, Nat.reduceSub, Nat.reduceMul, Nat.reduceBEq, Nat.reduceLeDiff, Nat.reduceLT, Nat.reduceDiv, Nat.reduceMod])
    | some r =>
      rw [hm] at hA
      obtain ⟨a, R, e, g1, g2, g3, g4⟩ := hA
      have hp := patternOk_ok R g1 (by omega) (by simp at g3; omega)
      clear hm g1 g3 g4
      cases r with
      | nil =>
        refine ⟨.sl 3 R, ?_⟩
        simp only [hP, hQ] at e
        have ht : R.take R.length = R := List.take_of_length_le (Nat.le_refl _)
        refine nfW true (fun _ => W51.2) W51.1 Try.func51 rfl rfl fun c ht hr => ?_; simp only [okW, List.length_cons, List.length_nil, Nat.reduceAdd, firstReg, and_true] at c; (try simp (maxSteps := 4000000) (disch := first | assumption | omega) only [go_sem, *, e, hp, within_ok, arr_all, Option.isSome_some, resOnes, ht, List.isEmpty_nil, ↓bin_eqI, ↓bin_neI, Nat.reduceAdd, Nat.reduceSub, Nat.reduceMul, Nat.reduceBEq, Nat.reduceLeDiff, Nat.reduceLT, Nat.reduceDiv, Nat.reduceMod]); repeat' ((first | with_reducible first | refine caK (fun hb => ?_) fun hb => ?_ | refine caG (fun hb => ?_) fun hb => ?_ | refine caP (fun hb => ?_) fun hb => ?_ | refine caH (fun hb => ?_) fun hb => ?_ | refine caQ (fun hb => ?_) fun hb => ?_ | refine ite_cases (fun hb => ?_) fun hb => ?_ | rw [drwK_ok rfl]) <;> try simp (maxSteps := 4000000) (disch := first | assumption | omega) only [go_sem, *, e, hp, within_ok, arr_all, Option.isSome_some, resOnes, ht, List.isEmpty_nil, ↓bin_eqI, ↓bin_neI, Nat.reduceAdd, Nat.reduceSub, Nat.reduceMul, Nat.reduceBEq, Nat.reduceLeDiff, Nat.reduceLT, Nat.reduceDiv, Nat.reduceMod])
      | cons b r =>
        refine ⟨.v (.slice none 0 0), ?_⟩
        have e2 : ((b :: r) = []) = False := by simp
        simp only [hP, hQ] at e
        refine nfW true (fun _ => W51.2) W51.1 Try.func51 rfl rfl fun c ht hr => ?_; simp only [okW, List.length_cons, List.length_nil, Nat.reduceAdd, firstReg, and_true] at c; (try simp (maxSteps := 4000000) (disch := first | assumption | omega) only [go_sem, *, e, hp, within_ok, arr_all, Option.isSome_some, resOnes, e2, List.isEmpty_cons, ↓bin_eqI, ↓bin_neI, Nat.reduceAdd, Nat.reduceSub, Nat.reduceMul, Nat.reduceBEq, Nat.reduceLeDiff, Nat.reduceLT, Nat.reduceDiv, Nat.reduceMod]); repeat' ((first | with_reducible first | refine caK (fun hb => ?_) fun hb => ?_ | refine caG (fun hb => ?_) fun hb => ?_ | refine caP (fun hb => ?_) fun hb => ?_ | refine caH (fun hb => ?_) fun hb => ?_ | refine caQ (fun hb => ?_) fun hb => ?_ | refine ite_cases (fun hb => ?_) fun hb => ?_ | rw [drwK_ok rfl]) <;> try simp (maxSteps := 4000000) (disch := first | assumption | omega) only [go_sem, *, e, hp, within_ok, arr_all, Option.isSome_some, resOnes, e2, List.isEmpty_cons, ↓bin_eqI, ↓bin_neI, Nat.reduceAdd, Nat.reduceSub, Nat.reduceMul, Nat.reduceBEq, Nat.reduceLeDiff, Nat.reduceLT, Nat.reduceDiv, Nat.reduceMod])
  · refine ⟨.v (.slice none 0 0), ?_⟩
    simp only [decF hlen, Bool.false_and]
    refine nfW true (fun _ => W51.2) W51.1 Try.func51 rfl rfl fun c ht hr => ?_; simp only [okW, List.length_cons, List.length_nil, Nat.reduceAdd, firstReg, and_true] at c; (try simp (maxSteps := 4000000) (disch := first | assumption | omega) only [go_sem, *, within_ok, arr_all, Option.isSome_some, resOnes, ↓bin_eqI, ↓bin_neI, Nat.reduceAdd, Nat.reduceSub, Nat.reduceMul, Nat.reduceBEq, Nat.reduceLeDiff, Nat.reduceLT, Nat.reduceDiv, Nat.reduceMod]); repeat' ((first | with_reducible first | refine caK (fun hb => ?_) fun hb => ?_ | refine caG (fun hb => ?_) fun hb => ?_ | refine caP (fun hb => ?_) fun hb => ?_ | refine caH (fun hb => ?_) fun hb => ?_ | refine caQ (fun hb => ?_) fun hb => ?_ | refine ite_cases (fun hb => ?_) fun hb => ?_ | rw [drwK_ok rfl]) <;> try simp (maxSteps := 4000000) (disch := first | assumption | omega) only [go_sem, *, within_ok, arr_all, Option.isSome_some, resOnes, ↓bin_eqI, ↓bin_neI, Nat.reduceAdd, Nat.reduceSub, Nat.reduceMul, Nat.reduceBEq, Nat.reduceLeDiff, Nat.reduceLT, Nat.reduceDiv, Nat.reduceMod])
end
end Go.Vsi
