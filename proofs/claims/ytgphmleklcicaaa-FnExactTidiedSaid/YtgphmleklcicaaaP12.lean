/- What the functions of the program, of the reference and of the law do (a part of it). -/
import Derived.Test.YtgphmleklcicaaaP7
namespace Go.Vsi
open Go.Proofs
noncomputable section
set_option maxRecDepth 100000
set_option maxHeartbeats 4000000
set_option linter.unusedSimpArgs false
set_option linter.unusedVariables false
attribute [local go_sem] IX9
/-! The reference's reader of patterns: the whole text, the place, whether it is bad, the pieces so far (as rows) -/
def hS (s : List UInt8) (n : Nat) (bad : Bool) : List (List D) → List (Option Blk)
  | [] => [some (.var [.d (.v (.string (B (s)))), .d (.v (.int .i64 ((n : Int)))), .d (.v (.bool (bad))), .d (.v (.slice none 0 0))])]
  | p :: ps => [some (.var [.d (.v (.string (B (s)))), .d (.v (.int .i64 ((n : Int)))), .d (.v (.bool (bad))), .arr 1 0 (ps.length + 1)]), some (.arr 3 (p :: ps))]
def hT (R0 : List (List D)) (s : List UInt8) (n : Nat) (bad : Bool) (R : List (List D)) : List (Option Blk) :=
  match R0 with
  | [] => [some (.var [.d (.v (.string (B (s)))), .d (.v (.int .i64 ((n : Int)))), .d (.v (.bool (bad))), .arr 1 0 R.length]), some (.arr 3 R)]
  | _ :: _ => [some (.var [.d (.v (.string (B (s)))), .d (.v (.int .i64 ((n : Int)))), .d (.v (.bool (bad))), .arr 2 0 R.length]), none, some (.arr 3 R)]
theorem sput_nil (op : Int) (t : List UInt8) (s : List UInt8) (n : Nat) (bad : Bool) (R : List (List D)) (hn : R.length ≤ 59) : fnL Try.prog T L0 80 [.c (.ptr 0 0 0), .agg [.d (.v (.int .i64 (op))), .d (.v (.string (B (t)))), .d (.v (.slice none 0 0))]] (hS s n bad R) = some (.one (.c (.d (.v (.int .i64 ((R.length : Int)))))), hT R s n bad (R ++ [[.v (.int .i64 (op)), .v (.string (B (t))), .v (.slice none 0 0)]])) := by
  have hroom : room = 70368744177664 := rfl
  cases R with
  | nil =>
    simp only [hS, hT, List.nil_append]
    refine nfW true (fun _ => W80.2) W80.1 Try.func80 rfl rfl fun c ht hr => ?_; simp only [okW, List.length_cons, List.length_nil, Nat.reduceAdd, firstReg, and_true] at c; (try simp (maxSteps := 4000000) (disch := first | assumption | omega) only [go_sem, *, ↓bin_eqI, ↓bin_neI, Nat.reduceAdd, Nat.reduceSub, Nat.reduceMul, Nat.reduceBEq, Nat.reduceLeDiff, Nat.reduceLT, Nat.reduceDiv, Nat.reduceMod]); repeat' ((first | with_reducible first | refine caK (fun hb => ?_) fun hb => ?_ | refine caG (fun hb => ?_) fun hb => ?_ | refine caP (fun hb => ?_) fun hb => ?_ | refine caH (fun hb => ?_) fun hb => ?_ | refine caQ (fun hb => ?_) fun hb => ?_ | refine ite_cases (fun hb => ?_) fun hb => ?_ | rw [drwK_ok rfl]) <;> try simp (maxSteps := 4000000) (disch := first | assumption | omega) only [go_sem, *, ↓bin_eqI, ↓bin_neI, Nat.reduceAdd, Nat.reduceSub, Nat.reduceMul, Nat.reduceBEq, Nat.reduceLeDiff, Nat.reduceLT, Nat.reduceDiv, Nat.reduceMod])
    all_goals rfl
  | cons p ps =>
    have hps : ps.length ≤ 58 := by simp at hn; omega
    obtain ⟨R, hR⟩ : ∃ R, R = p :: ps := ⟨_, rfl⟩
    have hl : R.length = ps.length + 1 := by rw [hR]; rfl
    have ht : R.take (ps.length + 1) = R := List.take_of_length_le (by omega)
    simp only [hS, hT]
    rw [← hR]
    clear hR hn
    have hs : ((ps.length + 1 + 1 : Nat) : Int) - 1 = ((ps.length + 1 : Nat) : Int) := by omega
    refine nfW true (fun _ => W80.2) W80.1 Try.func80 rfl rfl fun c ht hr => ?_; simp only [okW, List.length_cons, List.length_nil, Nat.reduceAdd, firstReg, and_true] at c; (try simp (maxSteps := 4000000) (disch := first | assumption | omega) only [go_sem, *, hl, ht, hs, List.length_append, ↓bin_eqI, ↓bin_neI, Nat.reduceAdd, Nat.reduceSub, Nat.reduceMul, Nat.reduceBEq, Nat.reduceLeDiff, Nat.reduceLT, Nat.reduceDiv, Nat.reduceMod]); repeat' ((first | with_reducible first | refine caK (fun hb => ?_) fun hb => ?_ | refine caG (fun hb => ?_) fun hb => ?_ | refine caP (fun hb => ?_) fun hb => ?_ | refine caH (fun hb => ?_) fun hb => ?_ | refine caQ (fun hb => ?_) fun hb => ?_ | refine ite_cases (fun hb => ?_) fun hb => ?_ | rw [drwK_ok rfl]) <;> try simp (maxSteps := 4000000) (disch := first | assumption | omega) only [go_sem, *, hl, ht, hs, List.length_append, ↓bin_eqI, ↓bin_neI, Nat.reduceAdd, Nat.reduceSub, Nat.reduceMul, Nat.reduceBEq, Nat.reduceLeDiff, Nat.reduceLT, Nat.reduceDiv, Nat.reduceMod])
theorem ixAt (s : List UInt8) (n : Nat) (h : n < s.length) : pure1 Try.prog (Instr.index 9 (.string (B s)) (.int .i64 (n : Int))) = some (.one (.c (.d (.v (.int .u8 (((s[n]'h).toNat : Int))))))) := by
  have := IX9 s .i64 (n : Int) ⟨by omega, by simpa using h⟩
  simpa using this
theorem sis_ok (c : UInt8) (s : List UInt8) (n : Nat) (hn : n ≤ s.length) (hs : s.length ≤ 24) (R : List (List D)) : fnL Try.prog T L0 79 [.c (.ptr 0 0 0), .c (.d (.v (.int .u8 ((c.toNat : Int)))))] (hS s n false R) = some (.one (.c (.d (.v (.bool (nx c (s.drop n)))))), hS s n false R) := by
  by_cases hl : n < s.length
  · have hi := ixAt s n hl
    rw [List.drop_eq_getElem_cons hl]
    simp only [nx]
    generalize s[n] = b at hi ⊢
    have hl2 : (n : Int) < (s.length : Int) := by omega
    cases R
    all_goals
      simp only [hS]
      refine nfW true (fun _ => W79.2) W79.1 Try.func79 rfl rfl fun c ht hr => ?_; simp only [okW, List.length_cons, List.length_nil, Nat.reduceAdd, firstReg, and_true] at c; (try simp (maxSteps := 4000000) (disch := first | assumption | omega) only [go_sem, *, hi, hl2, ↓bin_eqI, ↓bin_neI, Nat.reduceAdd, Nat.reduceSub, Nat.reduceMul, Nat.reduceBEq, Nat.reduceLeDiff, Nat.reduceLT, Nat.reduceDiv, Nat.reduceMod]); repeat' ((first | with_reducible first | refine caK (fun hb => ?_) fun hb => ?_ | refine caG (fun hb => ?_) fun hb => ?_ | refine caP (fun hb => ?_) fun hb => ?_ | refine caH (fun hb => ?_) fun hb => ?_ | refine caQ (fun hb => ?_) fun hb => ?_ | refine ite_cases (fun hb => ?_) fun hb => ?_ | rw [drwK_ok rfl]) <;> try simp (maxSteps := 4000000) (disch := first | assumption | omega) only [go_sem, *, hi, hl2, ↓bin_eqI, ↓bin_neI, Nat.reduceAdd, Nat.reduceSub, Nat.reduceMul, Nat.reduceBEq, Nat.reduceLeDiff, Nat.reduceLT, Nat.reduceDiv, Nat.reduceMod])
      rfl
  · rw [List.drop_eq_nil_of_le (by omega)]
    simp only [nx]
    have hl2 : ¬ (n : Int) < (s.length : Int) := by omega
    cases R
    all_goals
      simp only [hS]
      exact fn W79 Try.func79
theorem sput_kids (op : Int) (t : List UInt8) (ks : List Int) (hk : ks.length ≤ 4) (s : List UInt8) (i : Nat) (bad : Bool) (R : List (List D)) (n : Nat) (hn : R.length = n) (h1 : 1 ≤ n ∧ n ≤ 59) :
    fnL Try.prog T L0 80 [.c (.ptr 0 0 0), .agg [.d (.v (.int .i64 (op))), .d (.v (.string (B (t)))), .arr 2 0 ks.length]] [some (.var [.d (.v (.string (B (s)))), .d (.v (.int .i64 ((i : Int)))), .d (.v (.bool (bad))), .arr 1 0 n]), some (.arr 3 R), some (.arr 1 (rI ks))] =
      some (.one (.c (.d (.v (.int .i64 ((n : Int)))))), [some (.var [.d (.v (.string (B (s)))), .d (.v (.int .i64 ((i : Int)))), .d (.v (.bool (bad))), .arr 3 0 (n + 1)]), none, none, some (.arr 3 (R ++ [row op t ks]))]) := by
  have hroom : room = 70368744177664 := rfl
  have e : row op t ks = [.v (.int .i64 (op)), .v (.string (B (t))), .sl 1 (rI ks)] := rfl
  rw [e]
  have ht : R.take n = R := List.take_of_length_le (by omega)
  have hkt : (rI ks).take ks.length = rI ks := List.take_of_length_le (by simp [rI])
  have hs : ((n + 1 : Nat) : Int) - 1 = (n : Int) := by omega
  exact fn W80 Try.func80
end
end Go.Vsi
