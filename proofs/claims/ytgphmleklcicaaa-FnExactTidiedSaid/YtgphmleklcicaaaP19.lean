/- What the functions of the program, of the reference and of the law do (a part of it). -/
import Derived.Test.YtgphmleklcicaaaP18
namespace Go.Vsi
open Go.Proofs
noncomputable section
set_option maxRecDepth 100000
set_option maxHeartbeats 4000000
set_option linter.unusedSimpArgs false
set_option linter.unusedVariables false
attribute [local go_sem] IX9
/-- Does a row end here? -/
theorem stop_at (s : List UInt8) (n : Nat) (hn : n < s.length) : stop (s.drop n) = (eqI (s[n].toNat : Int) 124 || eqI (s[n].toNat : Int) 41) := by
  rw [List.drop_eq_getElem_cons hn]
  rfl
theorem srow_z0 (s : List UInt8) (hs : s.length ≤ 24) (n a : Nat) (R : List (List D)) (hn : ¬ n < s.length) : loopC Try.prog T (fnL Try.prog T L0) 78 (cq Try.f78 [0, 0, 0, 1, 1, 1]) ⟨[.one (.c (.ptr 0 0 0)), J, J, .one (.c (.d (.v (.int .i64 ((a : Int)))))), J, J, J, J, J, J, J, J, J, J, J, J, J, J, J, J, J, J, J, J, J, J, J, J, J, J, J, J, J, J, J, J, J, J, J, J, J, J, J, J, J, J, J, J, J, J, J, J, J, J, J, J, J, J, J, J, J, J, J, J, J, J, J, J, J, J, J, J, J, J, J, J, J, J, J, J, J, J, J, J, J, J, J, J, J, J, J, J, J, J], hpOf [some (.var [.d (.v (.string (B (s)))), .d (.v (.int .i64 ((n : Int)))), .d (.v (.bool (false))), .arr 1 0 R.length]), some (.arr 3 R)], 2, 1⟩ = some (.exit 0, ⟨[J, J, J, .one (.c (.d (.v (.int .i64 ((a : Int)))))), J, J, J, J, J, J, J, J, J, J, J, J, J, J, J, J, J, J, J, J, J, J, J, J, J, J, J, J, J, J, J, J, J, J, J, J, J, J, J, J, J, J, J, J, J, J, J, J, J, J, J, J, J, J, J, J, J, J, J, J, J, J, J, J, J, J, J, J, J, J, J, J, J, J, J, J, J, J, J, J, J, J, J, J, J, J, J, J, J, J], hpOf [some (.var [.d (.v (.string (B (s)))), .d (.v (.int .i64 ((n : Int)))), .d (.v (.bool (false))), .arr 1 0 R.length]), some (.arr 3 R)], 2, 1⟩) := by
  have hl2 : ¬ (n : Int) < (s.length : Int) := by omega
  exact lp W78
theorem srow_s0 (s : List UInt8) (hs : s.length ≤ 24) (n a : Nat) (R : List (List D)) (hl : n < s.length) (hq : stop (s.drop n) = true) : loopC Try.prog T (fnL Try.prog T L0) 78 (cq Try.f78 [0, 0, 0, 1, 1, 1]) ⟨[.one (.c (.ptr 0 0 0)), J, J, .one (.c (.d (.v (.int .i64 ((a : Int)))))), J, J, J, J, J, J, J, J, J, J, J, J, J, J, J, J, J, J, J, J, J, J, J, J, J, J, J, J, J, J, J, J, J, J, J, J, J, J, J, J, J, J, J, J, J, J, J, J, J, J, J, J, J, J, J, J, J, J, J, J, J, J, J, J, J, J, J, J, J, J, J, J, J, J, J, J, J, J, J, J, J, J, J, J, J, J, J, J, J, J], hpOf [some (.var [.d (.v (.string (B (s)))), .d (.v (.int .i64 ((n : Int)))), .d (.v (.bool (false))), .arr 1 0 R.length]), some (.arr 3 R)], 2, 1⟩ = some (.exit 0, ⟨[J, J, J, .one (.c (.d (.v (.int .i64 ((a : Int)))))), J, J, J, J, J, J, J, J, J, J, J, J, J, J, J, J, J, J, J, J, J, J, J, J, J, J, J, J, J, J, J, J, J, J, J, J, J, J, J, J, J, J, J, J, J, J, J, J, J, J, J, J, J, J, J, J, J, J, J, J, J, J, J, J, J, J, J, J, J, J, J, J, J, J, J, J, J, J, J, J, J, J, J, J, J, J, J, J, J, J], hpOf [some (.var [.d (.v (.string (B (s)))), .d (.v (.int .i64 ((n : Int)))), .d (.v (.bool (false))), .arr 1 0 R.length]), some (.arr 3 R)], 2, 1⟩) := by
  have hi := ixAt s n hl
  have hl2 : (n : Int) < (s.length : Int) := by omega
  have hl3 : ¬ (s.length : Int) ≤ (n : Int) := by omega
  have hst := stop_at s n hl
  generalize s[n] = b at hi hst
  rw [hq] at hst
  have hq2 : eqI (b.toNat : Int) 124 = true ∨ (eqI (b.toNat : Int) 124 = false ∧ eqI (b.toNat : Int) 41 = true) := by
    cases hx : eqI (b.toNat : Int) 124 with
    | true => exact .inl rfl
    | false => exact .inr ⟨rfl, by simpa [hx] using hst.symm⟩
  clear hst hq
  rcases hq2 with z1 | ⟨z1, z2⟩
  all_goals
    exact lp W78
theorem srow_n0 (s : List UInt8) (hs : s.length ≤ 24) (n a n' : Nat) (w : Int) (p : List D) (ps : List (List D)) (hl : n < s.length) (hq : stop (s.drop n) = false) (hlen : (p :: ps).length ≤ 59) (e : fnL Try.prog T L0 88 [.c (.ptr 0 0 0)] (hS s n false (p :: ps)) = some (.one (.c (.d (.v (.int .i64 (w))))), hS s n' true (p :: ps))) : loopC Try.prog T (fnL Try.prog T L0) 78 (cq Try.f78 [0, 0, 0, 1, 1, 1]) ⟨[.one (.c (.ptr 0 0 0)), J, J, .one (.c (.d (.v (.int .i64 ((a : Int)))))), J, J, J, J, J, J, J, J, J, J, J, J, J, J, J, J, J, J, J, J, J, J, J, J, J, J, J, J, J, J, J, J, J, J, J, J, J, J, J, J, J, J, J, J, J, J, J, J, J, J, J, J, J, J, J, J, J, J, J, J, J, J, J, J, J, J, J, J, J, J, J, J, J, J, J, J, J, J, J, J, J, J, J, J, J, J, J, J, J, J], hpOf [some (.var [.d (.v (.string (B (s)))), .d (.v (.int .i64 ((n : Int)))), .d (.v (.bool (false))), .arr 1 0 (p :: ps).length]), some (.arr 3 (p :: ps))], 2, 1⟩ = some (.exit 0, ⟨[J, J, J, .one (.c (.d (.v (.int .i64 (((ps.length + 1 : Nat) : Int)))))), J, J, J, J, J, J, J, J, J, J, J, J, J, J, J, J, J, J, J, J, J, J, J, J, J, J, J, J, J, J, J, J, J, J, J, J, J, J, J, J, J, J, J, J, J, J, J, J, J, J, J, J, J, J, J, J, J, J, J, J, J, J, J, J, J, J, J, J, J, J, J, J, J, J, J, J, J, J, J, J, J, J, J, J, J, J, J, J, J, J], hpOf [some (.var [.d (.v (.string (B (s)))), .d (.v (.int .i64 ((n' : Int)))), .d (.v (.bool (true))), .arr 1 0 ((p :: ps) ++ [row 5 [] [(a : Int), w]]).length]), some (.arr 3 ((p :: ps) ++ [row 5 [] [(a : Int), w]]))], 2, 1⟩) := by
  have hi := ixAt s n hl
  have hl2 : (n : Int) < (s.length : Int) := by omega
  have hl3 : ¬ (s.length : Int) ≤ (n : Int) := by omega
  have hst := stop_at s n hl
  generalize s[n] = b at hi hst
  rw [hq] at hst
  have z1 : eqI (b.toNat : Int) 124 = false := by
    cases hx : eqI (b.toNat : Int) 124 with
    | true => simp [hx] at hst
    | false => rfl
  have z2 : eqI (b.toNat : Int) 41 = false := by simpa [z1] using hst.symm
  clear hst hq
  have hp := sput_kids_bad 5 [] [(a : Int), w] (by simp) s n' (p :: ps) (ps.length + 1) rfl ⟨by omega, by simp at hlen; omega⟩
  simp only [rI, List.map_cons, List.map_nil, List.length_cons, List.length_nil, Nat.zero_add, Nat.reduceAdd, hS] at hp e ⊢
  refine lpW true (fun _ => W78.2) W78.1 rfl fun c hl => ?_; simp only [subR, chi, okW, List.length_cons, List.length_nil, Nat.reduceAdd, firstReg, and_true] at c hl; (try simp (maxSteps := 4000000) (disch := first | assumption | omega) only [go_sem, *, arr_all, Option.isSome_some, hi, hl2, hl3, z1, z2, e, hp, B_empty, loopC_round, List.length_append, ↓bin_eqI, ↓bin_neI, Nat.reduceAdd, Nat.reduceSub, Nat.reduceMul, Nat.reduceBEq, Nat.reduceLeDiff, Nat.reduceLT, Nat.reduceDiv, Nat.reduceMod]); repeat' ((first | with_reducible first | refine caK (fun hb => ?_) fun hb => ?_ | refine caG (fun hb => ?_) fun hb => ?_ | refine caP (fun hb => ?_) fun hb => ?_ | refine caH (fun hb => ?_) fun hb => ?_ | refine caQ (fun hb => ?_) fun hb => ?_ | refine ite_cases (fun hb => ?_) fun hb => ?_ | rw [drwK_ok rfl]) <;> try simp (maxSteps := 4000000) (disch := first | assumption | omega) only [go_sem, *, arr_all, Option.isSome_some, hi, hl2, hl3, z1, z2, e, hp, B_empty, loopC_round, List.length_append, ↓bin_eqI, ↓bin_neI, Nat.reduceAdd, Nat.reduceSub, Nat.reduceMul, Nat.reduceBEq, Nat.reduceLeDiff, Nat.reduceLT, Nat.reduceDiv, Nat.reduceMod])
theorem srow_m0 (s : List UInt8) (hs : s.length ≤ 24) (n a n' : Nat) (w : Int) (p : List D) (ps R' : List (List D)) (hl : n < s.length) (hq : stop (s.drop n) = false) (hlen : (p :: ps).length ≤ 59) (y1 : 1 ≤ R'.length) (y2 : R'.length ≤ 99) (e : fnL Try.prog T L0 88 [.c (.ptr 0 0 0)] (hS s n false (p :: ps)) = some (.one (.c (.d (.v (.int .i64 (w))))), hT (p :: ps) s n' true R')) : loopC Try.prog T (fnL Try.prog T L0) 78 (cq Try.f78 [0, 0, 0, 1, 1, 1]) ⟨[.one (.c (.ptr 0 0 0)), J, J, .one (.c (.d (.v (.int .i64 ((a : Int)))))), J, J, J, J, J, J, J, J, J, J, J, J, J, J, J, J, J, J, J, J, J, J, J, J, J, J, J, J, J, J, J, J, J, J, J, J, J, J, J, J, J, J, J, J, J, J, J, J, J, J, J, J, J, J, J, J, J, J, J, J, J, J, J, J, J, J, J, J, J, J, J, J, J, J, J, J, J, J, J, J, J, J, J, J, J, J, J, J, J, J], hpOf [some (.var [.d (.v (.string (B (s)))), .d (.v (.int .i64 ((n : Int)))), .d (.v (.bool (false))), .arr 1 0 (p :: ps).length]), some (.arr 3 (p :: ps))], 2, 1⟩ = some (.exit 0, ⟨[J, J, J, .one (.c (.d (.v (.int .i64 (((R'.length : Nat) : Int)))))), J, J, J, J, J, J, J, J, J, J, J, J, J, J, J, J, J, J, J, J, J, J, J, J, J, J, J, J, J, J, J, J, J, J, J, J, J, J, J, J, J, J, J, J, J, J, J, J, J, J, J, J, J, J, J, J, J, J, J, J, J, J, J, J, J, J, J, J, J, J, J, J, J, J, J, J, J, J, J, J, J, J, J, J, J, J, J, J, J, J], hpOf [some (.var [.d (.v (.string (B (s)))), .d (.v (.int .i64 ((n' : Int)))), .d (.v (.bool (true))), .arr 1 0 (R' ++ [row 5 [] [(a : Int), w]]).length]), some (.arr 3 (R' ++ [row 5 [] [(a : Int), w]]))], 2, 1⟩) := by
  have hi := ixAt s n hl
  have hl2 : (n : Int) < (s.length : Int) := by omega
  have hl3 : ¬ (s.length : Int) ≤ (n : Int) := by omega
  have hst := stop_at s n hl
  generalize s[n] = b at hi hst
  rw [hq] at hst
  have z1 : eqI (b.toNat : Int) 124 = false := by
    cases hx : eqI (b.toNat : Int) 124 with
    | true => simp [hx] at hst
    | false => rfl
  have z2 : eqI (b.toNat : Int) 41 = false := by simpa [z1] using hst.symm
  clear hst hq
  have hp := sput_kids_bad 5 [] [(a : Int), w] (by simp) s n' R' R'.length rfl ⟨by omega, by omega⟩
  simp only [rI, List.map_cons, List.map_nil, List.length_cons, List.length_nil, Nat.zero_add, Nat.reduceAdd, hS, hT] at hp e ⊢
  refine lpW true (fun _ => W78.2) W78.1 rfl fun c hl => ?_; simp only [subR, chi, okW, List.length_cons, List.length_nil, Nat.reduceAdd, firstReg, and_true] at c hl; (try simp (maxSteps := 4000000) (disch := first | assumption | omega) only [go_sem, *, arr_all, Option.isSome_some, hi, hl2, hl3, z1, z2, e, hp, B_empty, loopC_round, List.length_append, ↓bin_eqI, ↓bin_neI, Nat.reduceAdd, Nat.reduceSub, Nat.reduceMul, Nat.reduceBEq, Nat.reduceLeDiff, Nat.reduceLT, Nat.reduceDiv, Nat.reduceMod]); repeat' ((first | with_reducible first | refine caK (fun hb => ?_) fun hb => ?_ | refine caG (fun hb => ?_) fun hb => ?_ | refine caP (fun hb => ?_) fun hb => ?_ | refine caH (fun hb => ?_) fun hb => ?_ | refine caQ (fun hb => ?_) fun hb => ?_ | refine ite_cases (fun hb => ?_) fun hb => ?_ | rw [drwK_ok rfl]) <;> try simp (maxSteps := 4000000) (disch := first | assumption | omega) only [go_sem, *, arr_all, Option.isSome_some, hi, hl2, hl3, z1, z2, e, hp, B_empty, loopC_round, List.length_append, ↓bin_eqI, ↓bin_neI, Nat.reduceAdd, Nat.reduceSub, Nat.reduceMul, Nat.reduceBEq, Nat.reduceLeDiff, Nat.reduceLT, Nat.reduceDiv, Nat.reduceMod])
theorem srow_o0 (s : List UInt8) (hs : s.length ≤ 24) (n a n2 a2 : Nat) (p : List D) (ps R2 : List (List D)) (hl : n < s.length) (hq : stop (s.drop n) = false) (hlen : (p :: ps).length ≤ 59) (h2 : 1 ≤ R2.length) (h3 : R2.length ≤ 59) (e : fnL Try.prog T L0 88 [.c (.ptr 0 0 0)] (hS s n false (p :: ps)) = some (.one (.c (.d (.v (.int .i64 ((a2 : Int)))))), hT (p :: ps) s n2 false R2)) (rhs : Option (Ex × St)) (q5 : loopC Try.prog T (fnL Try.prog T L0) 78 (cq Try.f78 [0, 0, 0, 1, 1, 1]) ⟨[.one (.c (.ptr 0 0 0)), J, J, .one (.c (.d (.v (.int .i64 (((R2.length : Nat) : Int)))))), J, J, J, J, J, J, J, J, J, J, J, J, J, J, J, J, J, J, J, J, J, J, J, J, J, J, J, J, J, J, J, J, J, J, J, J, J, J, J, J, J, J, J, J, J, J, J, J, J, J, J, J, J, J, J, J, J, J, J, J, J, J, J, J, J, J, J, J, J, J, J, J, J, J, J, J, J, J, J, J, J, J, J, J, J, J, J, J, J, J], hpOf [some (.var [.d (.v (.string (B (s)))), .d (.v (.int .i64 ((n2 : Int)))), .d (.v (.bool (false))), .arr 1 0 (R2 ++ [row 5 [] [(a : Int), (a2 : Int)]]).length]), some (.arr 3 (R2 ++ [row 5 [] [(a : Int), (a2 : Int)]]))], 2, 1⟩ = rhs) : loopC Try.prog T (fnL Try.prog T L0) 78 (cq Try.f78 [0, 0, 0, 1, 1, 1]) ⟨[.one (.c (.ptr 0 0 0)), J, J, .one (.c (.d (.v (.int .i64 ((a : Int)))))), J, J, J, J, J, J, J, J, J, J, J, J, J, J, J, J, J, J, J, J, J, J, J, J, J, J, J, J, J, J, J, J, J, J, J, J, J, J, J, J, J, J, J, J, J, J, J, J, J, J, J, J, J, J, J, J, J, J, J, J, J, J, J, J, J, J, J, J, J, J, J, J, J, J, J, J, J, J, J, J, J, J, J, J, J, J, J, J, J, J], hpOf [some (.var [.d (.v (.string (B (s)))), .d (.v (.int .i64 ((n : Int)))), .d (.v (.bool (false))), .arr 1 0 (p :: ps).length]), some (.arr 3 (p :: ps))], 2, 1⟩ = rhs := by
  have hi := ixAt s n hl
  have hl2 : (n : Int) < (s.length : Int) := by omega
  have hl3 : ¬ (s.length : Int) ≤ (n : Int) := by omega
  have hst := stop_at s n hl
  generalize s[n] = b at hi hst
  rw [hq] at hst
  have z1 : eqI (b.toNat : Int) 124 = false := by
    cases hx : eqI (b.toNat : Int) 124 with
    | true => simp [hx] at hst
    | false => rfl
  have z2 : eqI (b.toNat : Int) 41 = false := by simpa [z1] using hst.symm
  clear hst hq
  have hp := sput_kids 5 [] [(a : Int), (a2 : Int)] (by simp) s n2 false R2 R2.length rfl ⟨by omega, by omega⟩
  simp only [rI, List.map_cons, List.map_nil, List.length_cons, List.length_nil, Nat.zero_add, Nat.reduceAdd, hS, hT, List.length_append] at hp e q5 ⊢
  rw [← q5]
  clear q5
  refine lpW true (fun _ => W78.2) W78.1 rfl fun c hl => ?_; simp only [subR, chi, okW, List.length_cons, List.length_nil, Nat.reduceAdd, firstReg, and_true] at c hl; (try simp (maxSteps := 4000000) (disch := first | assumption | omega) only [go_sem, *, arr_all, Option.isSome_some, hi, hl2, hl3, z1, z2, e, hp, B_empty, List.length_append, ↓bin_eqI, ↓bin_neI, Nat.reduceAdd, Nat.reduceSub, Nat.reduceMul, Nat.reduceBEq, Nat.reduceLeDiff, Nat.reduceLT, Nat.reduceDiv, Nat.reduceMod]); repeat' ((first | with_reducible first | refine caK (fun hb => ?_) fun hb => ?_ | refine caG (fun hb => ?_) fun hb => ?_ | refine caP (fun hb => ?_) fun hb => ?_ | refine caH (fun hb => ?_) fun hb => ?_ | refine caQ (fun hb => ?_) fun hb => ?_ | refine ite_cases (fun hb => ?_) fun hb => ?_ | rw [drwK_ok rfl]) <;> try simp (maxSteps := 4000000) (disch := first | assumption | omega) only [go_sem, *, arr_all, Option.isSome_some, hi, hl2, hl3, z1, z2, e, hp, B_empty, List.length_append, ↓bin_eqI, ↓bin_neI, Nat.reduceAdd, Nat.reduceSub, Nat.reduceMul, Nat.reduceBEq, Nat.reduceLeDiff, Nat.reduceLT, Nat.reduceDiv, Nat.reduceMod])
theorem srow_loop0 (s : List UInt8) (hs : s.length ≤ 24) : ∀ (k : Nat), (∀ j, j < k → PIS 88 mThing 0 4 j) → ∀ (n a : Nat) (R : List (List D)), n ≤ s.length → 6 * (s.length - n) + 5 ≤ k → 1 ≤ R.length → R.length + 2 * (s.length - n) ≤ 59 →
    match mRowL k (s.drop n) with
    | some rest => ∃ (a' n' : Nat) (R' : List (List D)), n' ≤ s.length ∧ rest = s.drop n' ∧ (R.length ≤ R'.length ∧ R'.length + 2 * (s.length - n') ≤ R.length + 2 * (s.length - n)) ∧ (s.length - n' ≤ s.length - n) ∧
      loopC Try.prog T (fnL Try.prog T L0) 78 (cq Try.f78 [0, 0, 0, 1, 1, 1]) ⟨[.one (.c (.ptr 0 0 0)), J, J, .one (.c (.d (.v (.int .i64 ((a : Int)))))), J, J, J, J, J, J, J, J, J, J, J, J, J, J, J, J, J, J, J, J, J, J, J, J, J, J, J, J, J, J, J, J, J, J, J, J, J, J, J, J, J, J, J, J, J, J, J, J, J, J, J, J, J, J, J, J, J, J, J, J, J, J, J, J, J, J, J, J, J, J, J, J, J, J, J, J, J, J, J, J, J, J, J, J, J, J, J, J, J, J], hpOf [some (.var [.d (.v (.string (B (s)))), .d (.v (.int .i64 ((n : Int)))), .d (.v (.bool (false))), .arr 1 0 R.length]), some (.arr 3 R)], 2, 1⟩ = some (.exit 0, ⟨[J, J, J, .one (.c (.d (.v (.int .i64 ((a' : Int)))))), J, J, J, J, J, J, J, J, J, J, J, J, J, J, J, J, J, J, J, J, J, J, J, J, J, J, J, J, J, J, J, J, J, J, J, J, J, J, J, J, J, J, J, J, J, J, J, J, J, J, J, J, J, J, J, J, J, J, J, J, J, J, J, J, J, J, J, J, J, J, J, J, J, J, J, J, J, J, J, J, J, J, J, J, J, J, J, J, J, J], hpOf [some (.var [.d (.v (.string (B (s)))), .d (.v (.int .i64 ((n' : Int)))), .d (.v (.bool (false))), .arr 1 0 R'.length]), some (.arr 3 R')], 2, 1⟩)
    | none => ∃ (w : Int) (n' : Nat) (R' : List (List D)), 1 ≤ R'.length ∧ R'.length ≤ R.length + 2 * (s.length - n) + 2 ∧
      loopC Try.prog T (fnL Try.prog T L0) 78 (cq Try.f78 [0, 0, 0, 1, 1, 1]) ⟨[.one (.c (.ptr 0 0 0)), J, J, .one (.c (.d (.v (.int .i64 ((a : Int)))))), J, J, J, J, J, J, J, J, J, J, J, J, J, J, J, J, J, J, J, J, J, J, J, J, J, J, J, J, J, J, J, J, J, J, J, J, J, J, J, J, J, J, J, J, J, J, J, J, J, J, J, J, J, J, J, J, J, J, J, J, J, J, J, J, J, J, J, J, J, J, J, J, J, J, J, J, J, J, J, J, J, J, J, J, J, J, J, J, J, J], hpOf [some (.var [.d (.v (.string (B (s)))), .d (.v (.int .i64 ((n : Int)))), .d (.v (.bool (false))), .arr 1 0 R.length]), some (.arr 3 R)], 2, 1⟩ = some (.exit 0, ⟨[J, J, J, .one (.c (.d (.v (.int .i64 (w))))), J, J, J, J, J, J, J, J, J, J, J, J, J, J, J, J, J, J, J, J, J, J, J, J, J, J, J, J, J, J, J, J, J, J, J, J, J, J, J, J, J, J, J, J, J, J, J, J, J, J, J, J, J, J, J, J, J, J, J, J, J, J, J, J, J, J, J, J, J, J, J, J, J, J, J, J, J, J, J, J, J, J, J, J, J, J, J, J, J, J], hpOf [some (.var [.d (.v (.string (B (s)))), .d (.v (.int .i64 ((n' : Int)))), .d (.v (.bool (true))), .arr 1 0 R'.length]), some (.arr 3 R')], 2, 1⟩)
  | 0, _, n, a, R, _, hk, _, _ => by omega
  | k + 1, hT', n, a, R, hn, hk, hR, hlen => by
    simp only [mRowL]
    by_cases hl : n < s.length
    · have hb := hT' k (by omega) s n R hn (by omega) (by omega) hs
      cases hq : stop (s.drop n) with
      | true => exact ⟨a, n, R, hn, rfl, ⟨by omega, by omega⟩, by omega, srow_s0 s hs n a R hl hq⟩
      | false =>
        obtain ⟨p, ps, rfl⟩ : ∃ p ps, R = p :: ps := by
          cases R with
          | nil => simp at hR
          | cons p ps => exact ⟨p, ps, rfl⟩
        simp only
        cases hm : mThing k (s.drop n) with
        | none =>
          rw [hm] at hb
          obtain ⟨w, bs, e, hbs⟩ := hb
          rcases hbs with ⟨n', rfl⟩ | ⟨n', R', y1, y2, rfl⟩
          · exact ⟨((ps.length + 1 : Nat) : Int), n', (p :: ps) ++ [row 5 [] [(a : Int), w]], by simp, by simp; omega, srow_n0 s hs n a n' w p ps hl hq (by omega) e⟩
          · exact ⟨((R'.length : Nat) : Int), n', R' ++ [row 5 [] [(a : Int), w]], by simp, by have e1 : (p :: ps).length = ps.length + 1 := rfl; simp at y2 ⊢; omega, srow_m0 s hs n a n' w p ps R' hl hq (by omega) y1 (by omega) e⟩
        | some r =>
          rw [hm] at hb
          obtain ⟨a2, n2, R2, e, g1, g2, ⟨g3, g4⟩, g5⟩ := hb
          subst g2
          have ih := srow_loop0 s hs k (fun j hj => hT' j (by omega)) n2 R2.length (R2 ++ [row 5 [] [(a : Int), (a2 : Int)]]) g1 (by omega) (by simp) (by simp; omega)
          clear hT' hm
          simp only
          cases hml : mRowL k (s.drop n2) with
          | some rest =>
            rw [hml] at ih
            obtain ⟨a', n', R', q1, q2, q3, q4, q5⟩ := ih
            exact ⟨a', n', R', q1, q2, by have e1 : (p :: ps).length = ps.length + 1 := rfl; simp at q3 g4 ⊢; omega, by omega, srow_o0 s hs n a n2 a2 p ps R2 hl hq (by omega) (by omega) (by omega) e _ q5⟩
          | none =>
            rw [hml] at ih
            obtain ⟨w, n', R', q1, q2, q5⟩ := ih
            exact ⟨w, n', R', q1, by have e1 : (p :: ps).length = ps.length + 1 := rfl; simp at q2 g4 ⊢; omega, srow_o0 s hs n a n2 a2 p ps R2 hl hq (by omega) (by omega) (by omega) e _ q5⟩
    · have hd : s.drop n = [] := List.drop_eq_nil_of_le (by omega)
      rw [hd]
      simp only [show stop ([] : List UInt8) = true from rfl]
      exact ⟨a, n, R, hn, hd.symm, ⟨by omega, by omega⟩, by omega, srow_z0 s hs n a R hl⟩
theorem srow_z1 (s : List UInt8) (hs : s.length ≤ 24) (n a : Nat) (R : List (List D)) (hn : ¬ n < s.length) : loopC Try.prog T (fnL Try.prog T L0) 78 (cq Try.f78 [0, 0, 0, 1, 1, 1]) ⟨[.one (.c (.ptr 0 0 0)), J, J, .one (.c (.d (.v (.int .i64 ((a : Int)))))), J, J, J, J, J, J, J, J, J, J, J, J, J, J, J, J, J, J, J, J, J, J, J, J, J, J, J, J, J, J, J, J, J, J, J, J, J, J, J, J, J, J, J, J, J, J, J, J, J, J, J, J, J, J, J, J, J, J, J, J, J, J, J, J, J, J, J, J, J, J, J, J, J, J, J, J, J, J, J, J, J, J, J, J, J, J, J, J, J, J], hpOf [some (.var [.d (.v (.string (B (s)))), .d (.v (.int .i64 ((n : Int)))), .d (.v (.bool (false))), .arr 2 0 R.length]), none, some (.arr 3 R)], 3, 2⟩ = some (.exit 0, ⟨[J, J, J, .one (.c (.d (.v (.int .i64 ((a : Int)))))), J, J, J, J, J, J, J, J, J, J, J, J, J, J, J, J, J, J, J, J, J, J, J, J, J, J, J, J, J, J, J, J, J, J, J, J, J, J, J, J, J, J, J, J, J, J, J, J, J, J, J, J, J, J, J, J, J, J, J, J, J, J, J, J, J, J, J, J, J, J, J, J, J, J, J, J, J, J, J, J, J, J, J, J, J, J, J, J, J, J], hpOf [some (.var [.d (.v (.string (B (s)))), .d (.v (.int .i64 ((n : Int)))), .d (.v (.bool (false))), .arr 2 0 R.length]), none, some (.arr 3 R)], 3, 2⟩) := by
  have hl2 : ¬ (n : Int) < (s.length : Int) := by omega
  exact lp W78
theorem srow_s1 (s : List UInt8) (hs : s.length ≤ 24) (n a : Nat) (R : List (List D)) (hl : n < s.length) (hq : stop (s.drop n) = true) : loopC Try.prog T (fnL Try.prog T L0) 78 (cq Try.f78 [0, 0, 0, 1, 1, 1]) ⟨[.one (.c (.ptr 0 0 0)), J, J, .one (.c (.d (.v (.int .i64 ((a : Int)))))), J, J, J, J, J, J, J, J, J, J, J, J, J, J, J, J, J, J, J, J, J, J, J, J, J, J, J, J, J, J, J, J, J, J, J, J, J, J, J, J, J, J, J, J, J, J, J, J, J, J, J, J, J, J, J, J, J, J, J, J, J, J, J, J, J, J, J, J, J, J, J, J, J, J, J, J, J, J, J, J, J, J, J, J, J, J, J, J, J, J], hpOf [some (.var [.d (.v (.string (B (s)))), .d (.v (.int .i64 ((n : Int)))), .d (.v (.bool (false))), .arr 2 0 R.length]), none, some (.arr 3 R)], 3, 2⟩ = some (.exit 0, ⟨[J, J, J, .one (.c (.d (.v (.int .i64 ((a : Int)))))), J, J, J, J, J, J, J, J, J, J, J, J, J, J, J, J, J, J, J, J, J, J, J, J, J, J, J, J, J, J, J, J, J, J, J, J, J, J, J, J, J, J, J, J, J, J, J, J, J, J, J, J, J, J, J, J, J, J, J, J, J, J, J, J, J, J, J, J, J, J, J, J, J, J, J, J, J, J, J, J, J, J, J, J, J, J, J, J, J, J], hpOf [some (.var [.d (.v (.string (B (s)))), .d (.v (.int .i64 ((n : Int)))), .d (.v (.bool (false))), .arr 2 0 R.length]), none, some (.arr 3 R)], 3, 2⟩) := by
  have hi := ixAt s n hl
  have hl2 : (n : Int) < (s.length : Int) := by omega
  have hl3 : ¬ (s.length : Int) ≤ (n : Int) := by omega
  have hst := stop_at s n hl
  generalize s[n] = b at hi hst
  rw [hq] at hst
  have hq2 : eqI (b.toNat : Int) 124 = true ∨ (eqI (b.toNat : Int) 124 = false ∧ eqI (b.toNat : Int) 41 = true) := by
    cases hx : eqI (b.toNat : Int) 124 with
    | true => exact .inl rfl
    | false => exact .inr ⟨rfl, by simpa [hx] using hst.symm⟩
  clear hst hq
  rcases hq2 with z1 | ⟨z1, z2⟩
  all_goals
    exact lp W78
theorem srow_n1 (s : List UInt8) (hs : s.length ≤ 24) (n a n' : Nat) (w : Int) (p : List D) (ps : List (List D)) (hl : n < s.length) (hq : stop (s.drop n) = false) (hlen : (p :: ps).length ≤ 59) (e : fnL Try.prog T L0 88 [.c (.ptr 0 0 0)] (hS s n false (p :: ps)) = some (.one (.c (.d (.v (.int .i64 (w))))), hS s n' true (p :: ps))) : loopC Try.prog T (fnL Try.prog T L0) 78 (cq Try.f78 [0, 0, 0, 1, 1, 1]) ⟨[.one (.c (.ptr 0 0 0)), J, J, .one (.c (.d (.v (.int .i64 ((a : Int)))))), J, J, J, J, J, J, J, J, J, J, J, J, J, J, J, J, J, J, J, J, J, J, J, J, J, J, J, J, J, J, J, J, J, J, J, J, J, J, J, J, J, J, J, J, J, J, J, J, J, J, J, J, J, J, J, J, J, J, J, J, J, J, J, J, J, J, J, J, J, J, J, J, J, J, J, J, J, J, J, J, J, J, J, J, J, J, J, J, J, J], hpOf [some (.var [.d (.v (.string (B (s)))), .d (.v (.int .i64 ((n : Int)))), .d (.v (.bool (false))), .arr 2 0 (p :: ps).length]), none, some (.arr 3 (p :: ps))], 3, 2⟩ = some (.exit 0, ⟨[J, J, J, .one (.c (.d (.v (.int .i64 (((ps.length + 1 : Nat) : Int)))))), J, J, J, J, J, J, J, J, J, J, J, J, J, J, J, J, J, J, J, J, J, J, J, J, J, J, J, J, J, J, J, J, J, J, J, J, J, J, J, J, J, J, J, J, J, J, J, J, J, J, J, J, J, J, J, J, J, J, J, J, J, J, J, J, J, J, J, J, J, J, J, J, J, J, J, J, J, J, J, J, J, J, J, J, J, J, J, J, J, J], hpOf [some (.var [.d (.v (.string (B (s)))), .d (.v (.int .i64 ((n' : Int)))), .d (.v (.bool (true))), .arr 2 0 ((p :: ps) ++ [row 5 [] [(a : Int), w]]).length]), none, some (.arr 3 ((p :: ps) ++ [row 5 [] [(a : Int), w]]))], 3, 2⟩) := by
  have hi := ixAt s n hl
  have hl2 : (n : Int) < (s.length : Int) := by omega
  have hl3 : ¬ (s.length : Int) ≤ (n : Int) := by omega
  have hst := stop_at s n hl
  generalize s[n] = b at hi hst
  rw [hq] at hst
  have z1 : eqI (b.toNat : Int) 124 = false := by
    cases hx : eqI (b.toNat : Int) 124 with
    | true => simp [hx] at hst
    | false => rfl
  have z2 : eqI (b.toNat : Int) 41 = false := by simpa [z1] using hst.symm
  clear hst hq
  have hp := sput_kids_bad 5 [] [(a : Int), w] (by simp) s n' (p :: ps) (ps.length + 1) rfl ⟨by omega, by simp at hlen; omega⟩
  simp only [rI, List.map_cons, List.map_nil, List.length_cons, List.length_nil, Nat.zero_add, Nat.reduceAdd, hS] at hp e ⊢
  refine lpW true (fun _ => W78.2) W78.1 rfl fun c hl => ?_; simp only [subR, chi, okW, List.length_cons, List.length_nil, Nat.reduceAdd, firstReg, and_true] at c hl; (try simp (maxSteps := 4000000) (disch := first | assumption | omega) only [go_sem, *, arr_all, Option.isSome_some, hi, hl2, hl3, z1, z2, e, hp, B_empty, loopC_round, List.length_append, ↓bin_eqI, ↓bin_neI, Nat.reduceAdd, Nat.reduceSub, Nat.reduceMul, Nat.reduceBEq, Nat.reduceLeDiff, Nat.reduceLT, Nat.reduceDiv, Nat.reduceMod]); repeat' ((first | with_reducible first | refine caK (fun hb => ?_) fun hb => ?_ | refine caG (fun hb => ?_) fun hb => ?_ | refine caP (fun hb => ?_) fun hb => ?_ | refine caH (fun hb => ?_) fun hb => ?_ | refine caQ (fun hb => ?_) fun hb => ?_ | refine ite_cases (fun hb => ?_) fun hb => ?_ | rw [drwK_ok rfl]) <;> try simp (maxSteps := 4000000) (disch := first | assumption | omega) only [go_sem, *, arr_all, Option.isSome_some, hi, hl2, hl3, z1, z2, e, hp, B_empty, loopC_round, List.length_append, ↓bin_eqI, ↓bin_neI, Nat.reduceAdd, Nat.reduceSub, Nat.reduceMul, Nat.reduceBEq, Nat.reduceLeDiff, Nat.reduceLT, Nat.reduceDiv, Nat.reduceMod])
theorem srow_m1 (s : List UInt8) (hs : s.length ≤ 24) (n a n' : Nat) (w : Int) (p : List D) (ps R' : List (List D)) (hl : n < s.length) (hq : stop (s.drop n) = false) (hlen : (p :: ps).length ≤ 59) (y1 : 1 ≤ R'.length) (y2 : R'.length ≤ 99) (e : fnL Try.prog T L0 88 [.c (.ptr 0 0 0)] (hS s n false (p :: ps)) = some (.one (.c (.d (.v (.int .i64 (w))))), hT (p :: ps) s n' true R')) : loopC Try.prog T (fnL Try.prog T L0) 78 (cq Try.f78 [0, 0, 0, 1, 1, 1]) ⟨[.one (.c (.ptr 0 0 0)), J, J, .one (.c (.d (.v (.int .i64 ((a : Int)))))), J, J, J, J, J, J, J, J, J, J, J, J, J, J, J, J, J, J, J, J, J, J, J, J, J, J, J, J, J, J, J, J, J, J, J, J, J, J, J, J, J, J, J, J, J, J, J, J, J, J, J, J, J, J, J, J, J, J, J, J, J, J, J, J, J, J, J, J, J, J, J, J, J, J, J, J, J, J, J, J, J, J, J, J, J, J, J, J, J, J], hpOf [some (.var [.d (.v (.string (B (s)))), .d (.v (.int .i64 ((n : Int)))), .d (.v (.bool (false))), .arr 2 0 (p :: ps).length]), none, some (.arr 3 (p :: ps))], 3, 2⟩ = some (.exit 0, ⟨[J, J, J, .one (.c (.d (.v (.int .i64 (((R'.length : Nat) : Int)))))), J, J, J, J, J, J, J, J, J, J, J, J, J, J, J, J, J, J, J, J, J, J, J, J, J, J, J, J, J, J, J, J, J, J, J, J, J, J, J, J, J, J, J, J, J, J, J, J, J, J, J, J, J, J, J, J, J, J, J, J, J, J, J, J, J, J, J, J, J, J, J, J, J, J, J, J, J, J, J, J, J, J, J, J, J, J, J, J, J, J], hpOf [some (.var [.d (.v (.string (B (s)))), .d (.v (.int .i64 ((n' : Int)))), .d (.v (.bool (true))), .arr 2 0 (R' ++ [row 5 [] [(a : Int), w]]).length]), none, some (.arr 3 (R' ++ [row 5 [] [(a : Int), w]]))], 3, 2⟩) := by
  have hi := ixAt s n hl
  have hl2 : (n : Int) < (s.length : Int) := by omega
  have hl3 : ¬ (s.length : Int) ≤ (n : Int) := by omega
  have hst := stop_at s n hl
  generalize s[n] = b at hi hst
  rw [hq] at hst
  have z1 : eqI (b.toNat : Int) 124 = false := by
    cases hx : eqI (b.toNat : Int) 124 with
    | true => simp [hx] at hst
    | false => rfl
  have z2 : eqI (b.toNat : Int) 41 = false := by simpa [z1] using hst.symm
  clear hst hq
  have hp := sput_kids_bad 5 [] [(a : Int), w] (by simp) s n' R' R'.length rfl ⟨by omega, by omega⟩
  simp only [rI, List.map_cons, List.map_nil, List.length_cons, List.length_nil, Nat.zero_add, Nat.reduceAdd, hS, hT] at hp e ⊢
  refine lpW true (fun _ => W78.2) W78.1 rfl fun c hl => ?_; simp only [subR, chi, okW, List.length_cons, List.length_nil, Nat.reduceAdd, firstReg, and_true] at c hl; (try simp (maxSteps := 4000000) (disch := first | assumption | omega) only [go_sem, *, arr_all, Option.isSome_some, hi, hl2, hl3, z1, z2, e, hp, B_empty, loopC_round, List.length_append, ↓bin_eqI, ↓bin_neI, Nat.reduceAdd, Nat.reduceSub, Nat.reduceMul, Nat.reduceBEq, Nat.reduceLeDiff, Nat.reduceLT, Nat.reduceDiv, Nat.reduceMod]); repeat' ((first | with_reducible first | refine caK (fun hb => ?_) fun hb => ?_ | refine caG (fun hb => ?_) fun hb => ?_ | refine caP (fun hb => ?_) fun hb => ?_ | refine caH (fun hb => ?_) fun hb => ?_ | refine caQ (fun hb => ?_) fun hb => ?_ | refine ite_cases (fun hb => ?_) fun hb => ?_ | rw [drwK_ok rfl]) <;> try simp (maxSteps := 4000000) (disch := first | assumption | omega) only [go_sem, *, arr_all, Option.isSome_some, hi, hl2, hl3, z1, z2, e, hp, B_empty, loopC_round, List.length_append, ↓bin_eqI, ↓bin_neI, Nat.reduceAdd, Nat.reduceSub, Nat.reduceMul, Nat.reduceBEq, Nat.reduceLeDiff, Nat.reduceLT, Nat.reduceDiv, Nat.reduceMod])
theorem srow_o1 (s : List UInt8) (hs : s.length ≤ 24) (n a n2 a2 : Nat) (p : List D) (ps R2 : List (List D)) (hl : n < s.length) (hq : stop (s.drop n) = false) (hlen : (p :: ps).length ≤ 59) (h2 : 1 ≤ R2.length) (h3 : R2.length ≤ 59) (e : fnL Try.prog T L0 88 [.c (.ptr 0 0 0)] (hS s n false (p :: ps)) = some (.one (.c (.d (.v (.int .i64 ((a2 : Int)))))), hT (p :: ps) s n2 false R2)) (rhs : Option (Ex × St)) (q5 : loopC Try.prog T (fnL Try.prog T L0) 78 (cq Try.f78 [0, 0, 0, 1, 1, 1]) ⟨[.one (.c (.ptr 0 0 0)), J, J, .one (.c (.d (.v (.int .i64 (((R2.length : Nat) : Int)))))), J, J, J, J, J, J, J, J, J, J, J, J, J, J, J, J, J, J, J, J, J, J, J, J, J, J, J, J, J, J, J, J, J, J, J, J, J, J, J, J, J, J, J, J, J, J, J, J, J, J, J, J, J, J, J, J, J, J, J, J, J, J, J, J, J, J, J, J, J, J, J, J, J, J, J, J, J, J, J, J, J, J, J, J, J, J, J, J, J, J], hpOf [some (.var [.d (.v (.string (B (s)))), .d (.v (.int .i64 ((n2 : Int)))), .d (.v (.bool (false))), .arr 2 0 (R2 ++ [row 5 [] [(a : Int), (a2 : Int)]]).length]), none, some (.arr 3 (R2 ++ [row 5 [] [(a : Int), (a2 : Int)]]))], 3, 2⟩ = rhs) : loopC Try.prog T (fnL Try.prog T L0) 78 (cq Try.f78 [0, 0, 0, 1, 1, 1]) ⟨[.one (.c (.ptr 0 0 0)), J, J, .one (.c (.d (.v (.int .i64 ((a : Int)))))), J, J, J, J, J, J, J, J, J, J, J, J, J, J, J, J, J, J, J, J, J, J, J, J, J, J, J, J, J, J, J, J, J, J, J, J, J, J, J, J, J, J, J, J, J, J, J, J, J, J, J, J, J, J, J, J, J, J, J, J, J, J, J, J, J, J, J, J, J, J, J, J, J, J, J, J, J, J, J, J, J, J, J, J, J, J, J, J, J, J], hpOf [some (.var [.d (.v (.string (B (s)))), .d (.v (.int .i64 ((n : Int)))), .d (.v (.bool (false))), .arr 2 0 (p :: ps).length]), none, some (.arr 3 (p :: ps))], 3, 2⟩ = rhs := by
  have hi := ixAt s n hl
  have hl2 : (n : Int) < (s.length : Int) := by omega
  have hl3 : ¬ (s.length : Int) ≤ (n : Int) := by omega
  have hst := stop_at s n hl
  generalize s[n] = b at hi hst
  rw [hq] at hst
  have z1 : eqI (b.toNat : Int) 124 = false := by
    cases hx : eqI (b.toNat : Int) 124 with
    | true => simp [hx] at hst
    | false => rfl
  have z2 : eqI (b.toNat : Int) 41 = false := by simpa [z1] using hst.symm
  clear hst hq
  have hp := sput_kids 5 [] [(a : Int), (a2 : Int)] (by simp) s n2 false R2 R2.length rfl ⟨by omega, by omega⟩
  simp only [rI, List.map_cons, List.map_nil, List.length_cons, List.length_nil, Nat.zero_add, Nat.reduceAdd, hS, hT, List.length_append] at hp e q5 ⊢
  rw [← q5]
  clear q5
  refine lpW true (fun _ => W78.2) W78.1 rfl fun c hl => ?_; simp only [subR, chi, okW, List.length_cons, List.length_nil, Nat.reduceAdd, firstReg, and_true] at c hl; (try simp (maxSteps := 4000000) (disch := first | assumption | omega) only [go_sem, *, arr_all, Option.isSome_some, hi, hl2, hl3, z1, z2, e, hp, B_empty, List.length_append, ↓bin_eqI, ↓bin_neI, Nat.reduceAdd, Nat.reduceSub, Nat.reduceMul, Nat.reduceBEq, Nat.reduceLeDiff, Nat.reduceLT, Nat.reduceDiv, Nat.reduceMod]); repeat' ((first | with_reducible first | refine caK (fun hb => ?_) fun hb => ?_ | refine caG (fun hb => ?_) fun hb => ?_ | refine caP (fun hb => ?_) fun hb => ?_ | refine caH (fun hb => ?_) fun hb => ?_ | refine caQ (fun hb => ?_) fun hb => ?_ | refine ite_cases (fun hb => ?_) fun hb => ?_ | rw [drwK_ok rfl]) <;> try simp (maxSteps := 4000000) (disch := first | assumption | omega) only [go_sem, *, arr_all, Option.isSome_some, hi, hl2, hl3, z1, z2, e, hp, B_empty, List.length_append, ↓bin_eqI, ↓bin_neI, Nat.reduceAdd, Nat.reduceSub, Nat.reduceMul, Nat.reduceBEq, Nat.reduceLeDiff, Nat.reduceLT, Nat.reduceDiv, Nat.reduceMod])
theorem srow_loop1 (s : List UInt8) (hs : s.length ≤ 24) : ∀ (k : Nat), (∀ j, j < k → PIS 88 mThing 0 4 j) → ∀ (n a : Nat) (R : List (List D)), n ≤ s.length → 6 * (s.length - n) + 5 ≤ k → 1 ≤ R.length → R.length + 2 * (s.length - n) ≤ 59 →
    match mRowL k (s.drop n) with
    | some rest => ∃ (a' n' : Nat) (R' : List (List D)), n' ≤ s.length ∧ rest = s.drop n' ∧ (R.length ≤ R'.length ∧ R'.length + 2 * (s.length - n') ≤ R.length + 2 * (s.length - n)) ∧ (s.length - n' ≤ s.length - n) ∧
      loopC Try.prog T (fnL Try.prog T L0) 78 (cq Try.f78 [0, 0, 0, 1, 1, 1]) ⟨[.one (.c (.ptr 0 0 0)), J, J, .one (.c (.d (.v (.int .i64 ((a : Int)))))), J, J, J, J, J, J, J, J, J, J, J, J, J, J, J, J, J, J, J, J, J, J, J, J, J, J, J, J, J, J, J, J, J, J, J, J, J, J, J, J, J, J, J, J, J, J, J, J, J, J, J, J, J, J, J, J, J, J, J, J, J, J, J, J, J, J, J, J, J, J, J, J, J, J, J, J, J, J, J, J, J, J, J, J, J, J, J, J, J, J], hpOf [some (.var [.d (.v (.string (B (s)))), .d (.v (.int .i64 ((n : Int)))), .d (.v (.bool (false))), .arr 2 0 R.length]), none, some (.arr 3 R)], 3, 2⟩ = some (.exit 0, ⟨[J, J, J, .one (.c (.d (.v (.int .i64 ((a' : Int)))))), J, J, J, J, J, J, J, J, J, J, J, J, J, J, J, J, J, J, J, J, J, J, J, J, J, J, J, J, J, J, J, J, J, J, J, J, J, J, J, J, J, J, J, J, J, J, J, J, J, J, J, J, J, J, J, J, J, J, J, J, J, J, J, J, J, J, J, J, J, J, J, J, J, J, J, J, J, J, J, J, J, J, J, J, J, J, J, J, J, J], hpOf [some (.var [.d (.v (.string (B (s)))), .d (.v (.int .i64 ((n' : Int)))), .d (.v (.bool (false))), .arr 2 0 R'.length]), none, some (.arr 3 R')], 3, 2⟩)
    | none => ∃ (w : Int) (n' : Nat) (R' : List (List D)), 1 ≤ R'.length ∧ R'.length ≤ R.length + 2 * (s.length - n) + 2 ∧
      loopC Try.prog T (fnL Try.prog T L0) 78 (cq Try.f78 [0, 0, 0, 1, 1, 1]) ⟨[.one (.c (.ptr 0 0 0)), J, J, .one (.c (.d (.v (.int .i64 ((a : Int)))))), J, J, J, J, J, J, J, J, J, J, J, J, J, J, J, J, J, J, J, J, J, J, J, J, J, J, J, J, J, J, J, J, J, J, J, J, J, J, J, J, J, J, J, J, J, J, J, J, J, J, J, J, J, J, J, J, J, J, J, J, J, J, J, J, J, J, J, J, J, J, J, J, J, J, J, J, J, J, J, J, J, J, J, J, J, J, J, J, J, J], hpOf [some (.var [.d (.v (.string (B (s)))), .d (.v (.int .i64 ((n : Int)))), .d (.v (.bool (false))), .arr 2 0 R.length]), none, some (.arr 3 R)], 3, 2⟩ = some (.exit 0, ⟨[J, J, J, .one (.c (.d (.v (.int .i64 (w))))), J, J, J, J, J, J, J, J, J, J, J, J, J, J, J, J, J, J, J, J, J, J, J, J, J, J, J, J, J, J, J, J, J, J, J, J, J, J, J, J, J, J, J, J, J, J, J, J, J, J, J, J, J, J, J, J, J, J, J, J, J, J, J, J, J, J, J, J, J, J, J, J, J, J, J, J, J, J, J, J, J, J, J, J, J, J, J, J, J, J], hpOf [some (.var [.d (.v (.string (B (s)))), .d (.v (.int .i64 ((n' : Int)))), .d (.v (.bool (true))), .arr 2 0 R'.length]), none, some (.arr 3 R')], 3, 2⟩)
  | 0, _, n, a, R, _, hk, _, _ => by omega
  | k + 1, hT', n, a, R, hn, hk, hR, hlen => by
    simp only [mRowL]
    by_cases hl : n < s.length
    · have hb := hT' k (by omega) s n R hn (by omega) (by omega) hs
      cases hq : stop (s.drop n) with
      | true => exact ⟨a, n, R, hn, rfl, ⟨by omega, by omega⟩, by omega, srow_s1 s hs n a R hl hq⟩
      | false =>
        obtain ⟨p, ps, rfl⟩ : ∃ p ps, R = p :: ps := by
          cases R with
          | nil => simp at hR
          | cons p ps => exact ⟨p, ps, rfl⟩
        simp only
        cases hm : mThing k (s.drop n) with
        | none =>
          rw [hm] at hb
          obtain ⟨w, bs, e, hbs⟩ := hb
          rcases hbs with ⟨n', rfl⟩ | ⟨n', R', y1, y2, rfl⟩
          · exact ⟨((ps.length + 1 : Nat) : Int), n', (p :: ps) ++ [row 5 [] [(a : Int), w]], by simp, by simp; omega, srow_n1 s hs n a n' w p ps hl hq (by omega) e⟩
          · exact ⟨((R'.length : Nat) : Int), n', R' ++ [row 5 [] [(a : Int), w]], by simp, by have e1 : (p :: ps).length = ps.length + 1 := rfl; simp at y2 ⊢; omega, srow_m1 s hs n a n' w p ps R' hl hq (by omega) y1 (by omega) e⟩
        | some r =>
          rw [hm] at hb
          obtain ⟨a2, n2, R2, e, g1, g2, ⟨g3, g4⟩, g5⟩ := hb
          subst g2
          have ih := srow_loop1 s hs k (fun j hj => hT' j (by omega)) n2 R2.length (R2 ++ [row 5 [] [(a : Int), (a2 : Int)]]) g1 (by omega) (by simp) (by simp; omega)
          clear hT' hm
          simp only
          cases hml : mRowL k (s.drop n2) with
          | some rest =>
            rw [hml] at ih
            obtain ⟨a', n', R', q1, q2, q3, q4, q5⟩ := ih
            exact ⟨a', n', R', q1, q2, by have e1 : (p :: ps).length = ps.length + 1 := rfl; simp at q3 g4 ⊢; omega, by omega, srow_o1 s hs n a n2 a2 p ps R2 hl hq (by omega) (by omega) (by omega) e _ q5⟩
          | none =>
            rw [hml] at ih
            obtain ⟨w, n', R', q1, q2, q5⟩ := ih
            exact ⟨w, n', R', q1, by have e1 : (p :: ps).length = ps.length + 1 := rfl; simp at q2 g4 ⊢; omega, srow_o1 s hs n a n2 a2 p ps R2 hl hq (by omega) (by omega) (by omega) e _ q5⟩
    · have hd : s.drop n = [] := List.drop_eq_nil_of_le (by omega)
      rw [hd]
      simp only [show stop ([] : List UInt8) = true from rfl]
      exact ⟨a, n, R, hn, hd.symm, ⟨by omega, by omega⟩, by omega, srow_z1 s hs n a R hl⟩
theorem srow_a (s : List UInt8) (hs : s.length ≤ 24) (n : Nat) (R0 : List (List D)) (hl : n < s.length) (hq : stop (s.drop n) = true) (hR : R0.length ≤ 59) : fnL Try.prog T L0 78 [.c (.ptr 0 0 0)] (hS s n false R0) = some (.one (.c (.d (.v (.int .i64 ((R0.length : Int)))))), hT R0 s n false (R0 ++ [[.v (.int .i64 (12)), .v (.string (B ([]))), .v (.slice none 0 0)]])) := by
  have hi := ixAt s n hl
  have hl2 : (n : Int) < (s.length : Int) := by omega
  have hl3 : ¬ (s.length : Int) ≤ (n : Int) := by omega
  have hst := stop_at s n hl
  generalize s[n] = b at hi hst
  rw [hq] at hst
  have hp := sput_nil 12 [] s n false R0 hR
  have hq2 : eqI (b.toNat : Int) 124 = true ∨ (eqI (b.toNat : Int) 124 = false ∧ eqI (b.toNat : Int) 41 = true) := by
    cases hx : eqI (b.toNat : Int) 124 with
    | true => exact .inl rfl
    | false => exact .inr ⟨rfl, by simpa [hx] using hst.symm⟩
  clear hst hq hR
  rcases hq2 with z1 | ⟨z1, z2⟩
  all_goals
    cases R0
    all_goals
      simp only [hS, hT] at hp ⊢
      refine nfW true (fun _ => W78.2) W78.1 Try.func78 rfl rfl fun c ht hr => ?_; simp only [okW, List.length_cons, List.length_nil, Nat.reduceAdd, firstReg, and_true] at c; (try simp (maxSteps := 4000000) (disch := first | assumption | omega) only [go_sem, *, arr_all, Option.isSome_some, hi, hl2, hl3, hp, B_empty, List.length_append, ↓bin_eqI, ↓bin_neI, Nat.reduceAdd, Nat.reduceSub, Nat.reduceMul, Nat.reduceBEq, Nat.reduceLeDiff, Nat.reduceLT, Nat.reduceDiv, Nat.reduceMod]); repeat' ((first | with_reducible first | refine caK (fun hb => ?_) fun hb => ?_ | refine caG (fun hb => ?_) fun hb => ?_ | refine caP (fun hb => ?_) fun hb => ?_ | refine caH (fun hb => ?_) fun hb => ?_ | refine caQ (fun hb => ?_) fun hb => ?_ | refine ite_cases (fun hb => ?_) fun hb => ?_ | rw [drwK_ok rfl]) <;> try simp (maxSteps := 4000000) (disch := first | assumption | omega) only [go_sem, *, arr_all, Option.isSome_some, hi, hl2, hl3, hp, B_empty, List.length_append, ↓bin_eqI, ↓bin_neI, Nat.reduceAdd, Nat.reduceSub, Nat.reduceMul, Nat.reduceBEq, Nat.reduceLeDiff, Nat.reduceLT, Nat.reduceDiv, Nat.reduceMod])
theorem srow_d (s : List UInt8) (hs : s.length ≤ 24) (n : Nat) (R0 : List (List D)) (hn : ¬ n < s.length) (hR : R0.length ≤ 59) : fnL Try.prog T L0 78 [.c (.ptr 0 0 0)] (hS s n false R0) = some (.one (.c (.d (.v (.int .i64 ((R0.length : Int)))))), hT R0 s n false (R0 ++ [[.v (.int .i64 (12)), .v (.string (B ([]))), .v (.slice none 0 0)]])) := by
  have hl2 : (s.length : Int) ≤ (n : Int) := by omega
  have hp := sput_nil 12 [] s n false R0 hR
  clear hR
  cases R0
  all_goals
    simp only [hS, hT] at hp ⊢
    refine nfW true (fun _ => W78.2) W78.1 Try.func78 rfl rfl fun c ht hr => ?_; simp only [okW, List.length_cons, List.length_nil, Nat.reduceAdd, firstReg, and_true] at c; (try simp (maxSteps := 4000000) (disch := first | assumption | omega) only [go_sem, *, arr_all, Option.isSome_some, hl2, hp, B_empty, List.length_append, ↓bin_eqI, ↓bin_neI, Nat.reduceAdd, Nat.reduceSub, Nat.reduceMul, Nat.reduceBEq, Nat.reduceLeDiff, Nat.reduceLT, Nat.reduceDiv, Nat.reduceMod]); repeat' ((first | with_reducible first | refine caK (fun hb => ?_) fun hb => ?_ | refine caG (fun hb => ?_) fun hb => ?_ | refine caP (fun hb => ?_) fun hb => ?_ | refine caH (fun hb => ?_) fun hb => ?_ | refine caQ (fun hb => ?_) fun hb => ?_ | refine ite_cases (fun hb => ?_) fun hb => ?_ | rw [drwK_ok rfl]) <;> try simp (maxSteps := 4000000) (disch := first | assumption | omega) only [go_sem, *, arr_all, Option.isSome_some, hl2, hp, B_empty, List.length_append, ↓bin_eqI, ↓bin_neI, Nat.reduceAdd, Nat.reduceSub, Nat.reduceMul, Nat.reduceBEq, Nat.reduceLeDiff, Nat.reduceLT, Nat.reduceDiv, Nat.reduceMod])
theorem srow_b (s : List UInt8) (hs : s.length ≤ 24) (n n' : Nat) (w : Int) (R0 : List (List D)) (hl : n < s.length) (hq : stop (s.drop n) = false) (e : fnL Try.prog T L0 88 [.c (.ptr 0 0 0)] (hS s n false R0) = some (.one (.c (.d (.v (.int .i64 (w))))), hS s n' true R0)) : fnL Try.prog T L0 78 [.c (.ptr 0 0 0)] (hS s n false R0) = some (.one (.c (.d (.v (.int .i64 (w))))), hS s n' true R0) := by
  have hi := ixAt s n hl
  have hl2 : (n : Int) < (s.length : Int) := by omega
  have hl3 : ¬ (s.length : Int) ≤ (n : Int) := by omega
  have hst := stop_at s n hl
  generalize s[n] = b at hi hst
  rw [hq] at hst
  have z1 : eqI (b.toNat : Int) 124 = false := by
    cases hx : eqI (b.toNat : Int) 124 with
    | true => simp [hx] at hst
    | false => rfl
  have z2 : eqI (b.toNat : Int) 41 = false := by simpa [z1] using hst.symm
  clear hst hq
  cases R0
  all_goals
    simp only [hS] at e ⊢
    refine nfW true (fun _ => W78.2) W78.1 Try.func78 rfl rfl fun c ht hr => ?_; simp only [okW, List.length_cons, List.length_nil, Nat.reduceAdd, firstReg, and_true] at c; (try simp (maxSteps := 4000000) (disch := first | assumption | omega) only [go_sem, *, arr_all, Option.isSome_some, hi, hl2, hl3, z1, z2, e, loopC_round, ↓bin_eqI, ↓bin_neI, Nat.reduceAdd, Nat.reduceSub, Nat.reduceMul, Nat.reduceBEq, Nat.reduceLeDiff, Nat.reduceLT, Nat.reduceDiv, Nat.reduceMod]); repeat' ((first | with_reducible first | refine caK (fun hb => ?_) fun hb => ?_ | refine caG (fun hb => ?_) fun hb => ?_ | refine caP (fun hb => ?_) fun hb => ?_ | refine caH (fun hb => ?_) fun hb => ?_ | refine caQ (fun hb => ?_) fun hb => ?_ | refine ite_cases (fun hb => ?_) fun hb => ?_ | rw [drwK_ok rfl]) <;> try simp (maxSteps := 4000000) (disch := first | assumption | omega) only [go_sem, *, arr_all, Option.isSome_some, hi, hl2, hl3, z1, z2, e, loopC_round, ↓bin_eqI, ↓bin_neI, Nat.reduceAdd, Nat.reduceSub, Nat.reduceMul, Nat.reduceBEq, Nat.reduceLeDiff, Nat.reduceLT, Nat.reduceDiv, Nat.reduceMod])
theorem srow_c (s : List UInt8) (hs : s.length ≤ 24) (n n' : Nat) (w : Int) (R0 R : List (List D)) (hl : n < s.length) (hq : stop (s.drop n) = false) (e : fnL Try.prog T L0 88 [.c (.ptr 0 0 0)] (hS s n false R0) = some (.one (.c (.d (.v (.int .i64 (w))))), hT R0 s n' true R)) : fnL Try.prog T L0 78 [.c (.ptr 0 0 0)] (hS s n false R0) = some (.one (.c (.d (.v (.int .i64 (w))))), hT R0 s n' true R) := by
  have hi := ixAt s n hl
  have hl2 : (n : Int) < (s.length : Int) := by omega
  have hl3 : ¬ (s.length : Int) ≤ (n : Int) := by omega
  have hst := stop_at s n hl
  generalize s[n] = b at hi hst
  rw [hq] at hst
  have z1 : eqI (b.toNat : Int) 124 = false := by
    cases hx : eqI (b.toNat : Int) 124 with
    | true => simp [hx] at hst
    | false => rfl
  have z2 : eqI (b.toNat : Int) 41 = false := by simpa [z1] using hst.symm
  clear hst hq
  cases R0
  all_goals
    simp only [hS, hT] at e ⊢
    refine nfW true (fun _ => W78.2) W78.1 Try.func78 rfl rfl fun c ht hr => ?_; simp only [okW, List.length_cons, List.length_nil, Nat.reduceAdd, firstReg, and_true] at c; (try simp (maxSteps := 4000000) (disch := first | assumption | omega) only [go_sem, *, arr_all, Option.isSome_some, hi, hl2, hl3, z1, z2, e, loopC_round, ↓bin_eqI, ↓bin_neI, Nat.reduceAdd, Nat.reduceSub, Nat.reduceMul, Nat.reduceBEq, Nat.reduceLeDiff, Nat.reduceLT, Nat.reduceDiv, Nat.reduceMod]); repeat' ((first | with_reducible first | refine caK (fun hb => ?_) fun hb => ?_ | refine caG (fun hb => ?_) fun hb => ?_ | refine caP (fun hb => ?_) fun hb => ?_ | refine caH (fun hb => ?_) fun hb => ?_ | refine caQ (fun hb => ?_) fun hb => ?_ | refine ite_cases (fun hb => ?_) fun hb => ?_ | rw [drwK_ok rfl]) <;> try simp (maxSteps := 4000000) (disch := first | assumption | omega) only [go_sem, *, arr_all, Option.isSome_some, hi, hl2, hl3, z1, z2, e, loopC_round, ↓bin_eqI, ↓bin_neI, Nat.reduceAdd, Nat.reduceSub, Nat.reduceMul, Nat.reduceBEq, Nat.reduceLeDiff, Nat.reduceLT, Nat.reduceDiv, Nat.reduceMod])
theorem srow_e0 (s : List UInt8) (hs : s.length ≤ 24) (n n2 n' a : Nat) (w : Int) (bad : Bool) (R R' : List (List D)) (hl : n < s.length) (hq : stop (s.drop n) = false) (e : fnL Try.prog T L0 88 [.c (.ptr 0 0 0)] (hS s n false []) = some (.one (.c (.d (.v (.int .i64 ((a : Int)))))), hT [] s n2 false R)) (q5 : loopC Try.prog T (fnL Try.prog T L0) 78 (cq Try.f78 [0, 0, 0, 1, 1, 1]) ⟨[.one (.c (.ptr 0 0 0)), J, J, .one (.c (.d (.v (.int .i64 ((a : Int)))))), J, J, J, J, J, J, J, J, J, J, J, J, J, J, J, J, J, J, J, J, J, J, J, J, J, J, J, J, J, J, J, J, J, J, J, J, J, J, J, J, J, J, J, J, J, J, J, J, J, J, J, J, J, J, J, J, J, J, J, J, J, J, J, J, J, J, J, J, J, J, J, J, J, J, J, J, J, J, J, J, J, J, J, J, J, J, J, J, J, J], hpOf [some (.var [.d (.v (.string (B (s)))), .d (.v (.int .i64 ((n2 : Int)))), .d (.v (.bool (false))), .arr 1 0 R.length]), some (.arr 3 R)], 2, 1⟩ = some (.exit 0, ⟨[J, J, J, .one (.c (.d (.v (.int .i64 (w))))), J, J, J, J, J, J, J, J, J, J, J, J, J, J, J, J, J, J, J, J, J, J, J, J, J, J, J, J, J, J, J, J, J, J, J, J, J, J, J, J, J, J, J, J, J, J, J, J, J, J, J, J, J, J, J, J, J, J, J, J, J, J, J, J, J, J, J, J, J, J, J, J, J, J, J, J, J, J, J, J, J, J, J, J, J, J, J, J, J, J], hpOf [some (.var [.d (.v (.string (B (s)))), .d (.v (.int .i64 ((n' : Int)))), .d (.v (.bool (bad))), .arr 1 0 R'.length]), some (.arr 3 R')], 2, 1⟩)) : fnL Try.prog T L0 78 [.c (.ptr 0 0 0)] (hS s n false []) = some (.one (.c (.d (.v (.int .i64 (w))))), hT [] s n' bad R') := by
  have hi := ixAt s n hl
  have hl2 : (n : Int) < (s.length : Int) := by omega
  have hl3 : ¬ (s.length : Int) ≤ (n : Int) := by omega
  have hst := stop_at s n hl
  generalize s[n] = b at hi hst
  rw [hq] at hst
  have z1 : eqI (b.toNat : Int) 124 = false := by
    cases hx : eqI (b.toNat : Int) 124 with
    | true => simp [hx] at hst
    | false => rfl
  have z2 : eqI (b.toNat : Int) 41 = false := by simpa [z1] using hst.symm
  clear hst hq
  simp only [hS, hT] at e ⊢
  exact fn W78 Try.func78
theorem srow_e1 (s : List UInt8) (hs : s.length ≤ 24) (n n2 n' a : Nat) (w : Int) (bad : Bool) (p : List D) (ps : List (List D)) (R R' : List (List D)) (hl : n < s.length) (hq : stop (s.drop n) = false) (e : fnL Try.prog T L0 88 [.c (.ptr 0 0 0)] (hS s n false (p :: ps)) = some (.one (.c (.d (.v (.int .i64 ((a : Int)))))), hT (p :: ps) s n2 false R)) (q5 : loopC Try.prog T (fnL Try.prog T L0) 78 (cq Try.f78 [0, 0, 0, 1, 1, 1]) ⟨[.one (.c (.ptr 0 0 0)), J, J, .one (.c (.d (.v (.int .i64 ((a : Int)))))), J, J, J, J, J, J, J, J, J, J, J, J, J, J, J, J, J, J, J, J, J, J, J, J, J, J, J, J, J, J, J, J, J, J, J, J, J, J, J, J, J, J, J, J, J, J, J, J, J, J, J, J, J, J, J, J, J, J, J, J, J, J, J, J, J, J, J, J, J, J, J, J, J, J, J, J, J, J, J, J, J, J, J, J, J, J, J, J, J, J], hpOf [some (.var [.d (.v (.string (B (s)))), .d (.v (.int .i64 ((n2 : Int)))), .d (.v (.bool (false))), .arr 2 0 R.length]), none, some (.arr 3 R)], 3, 2⟩ = some (.exit 0, ⟨[J, J, J, .one (.c (.d (.v (.int .i64 (w))))), J, J, J, J, J, J, J, J, J, J, J, J, J, J, J, J, J, J, J, J, J, J, J, J, J, J, J, J, J, J, J, J, J, J, J, J, J, J, J, J, J, J, J, J, J, J, J, J, J, J, J, J, J, J, J, J, J, J, J, J, J, J, J, J, J, J, J, J, J, J, J, J, J, J, J, J, J, J, J, J, J, J, J, J, J, J, J, J, J, J], hpOf [some (.var [.d (.v (.string (B (s)))), .d (.v (.int .i64 ((n' : Int)))), .d (.v (.bool (bad))), .arr 2 0 R'.length]), none, some (.arr 3 R')], 3, 2⟩)) : fnL Try.prog T L0 78 [.c (.ptr 0 0 0)] (hS s n false (p :: ps)) = some (.one (.c (.d (.v (.int .i64 (w))))), hT (p :: ps) s n' bad R') := by
  have hi := ixAt s n hl
  have hl2 : (n : Int) < (s.length : Int) := by omega
  have hl3 : ¬ (s.length : Int) ≤ (n : Int) := by omega
  have hst := stop_at s n hl
  generalize s[n] = b at hi hst
  rw [hq] at hst
  have z1 : eqI (b.toNat : Int) 124 = false := by
    cases hx : eqI (b.toNat : Int) 124 with
    | true => simp [hx] at hst
    | false => rfl
  have z2 : eqI (b.toNat : Int) 41 = false := by simpa [z1] using hst.symm
  clear hst hq
  simp only [hS, hT] at e ⊢
  exact fn W78 Try.func78
theorem srow_of (k : Nat) (hT' : ∀ j, j < k + 1 → PIS 88 mThing 0 4 j) : PIS 78 mRow 1 5 (k + 1) := by
  intro s n R0 hn hk hlen hs
  simp only [mRow]
  by_cases hl : n < s.length
  · have hb := hT' k (by omega) s n R0 hn (by omega) (by omega) hs
    cases hq : stop (s.drop n) with
    | true => exact ⟨R0.length, n, R0 ++ [[.v (.int .i64 (12)), .v (.string (B ([]))), .v (.slice none 0 0)]], srow_a s hs n R0 hl hq (by omega), hn, rfl, ⟨by simp, by simp; omega⟩, by omega⟩
    | false =>
      simp only
      cases hm : mThing k (s.drop n) with
      | none =>
        rw [hm] at hb
        obtain ⟨w, bs, e, hbs⟩ := hb
        rcases hbs with ⟨n', rfl⟩ | ⟨n', R, y1, y2, rfl⟩
        · exact ⟨w, _, srow_b s hs n n' w R0 hl hq e, .inl ⟨n', rfl⟩⟩
        · exact ⟨w, _, srow_c s hs n n' w R0 R hl hq e, .inr ⟨n', R, y1, by omega, rfl⟩⟩
      | some r =>
        rw [hm] at hb
        obtain ⟨a, n2, R, e, g1, g2, ⟨g3, g4⟩, g5⟩ := hb
        subst g2
        simp only
        cases R0 with
        | nil =>
          have ih := srow_loop0 s hs k (fun j hj => hT' j (by omega)) n2 a R g1 (by omega) (by omega) (by simp at g4 hlen; omega)
          cases hml : mRowL k (s.drop n2) with
          | some rest =>
            rw [hml] at ih
            obtain ⟨a', n', R', q1, q2, q3, q4, q5⟩ := ih
            exact ⟨a', n', R', srow_e0 s hs n n2 n' a (a' : Int) false R R' hl hq e q5, q1, q2, ⟨by omega, by simp at g4 ⊢; omega⟩, by omega⟩
          | none =>
            rw [hml] at ih
            obtain ⟨w, n', R', q1, q2, q5⟩ := ih
            exact ⟨w, _, srow_e0 s hs n n2 n' a w true R R' hl hq e q5, .inr ⟨n', R', q1, by simp at g4 ⊢; omega, rfl⟩⟩
        | cons p ps =>
          have ih := srow_loop1 s hs k (fun j hj => hT' j (by omega)) n2 a R g1 (by omega) (by omega) (by simp at g4 hlen; omega)
          cases hml : mRowL k (s.drop n2) with
          | some rest =>
            rw [hml] at ih
            obtain ⟨a', n', R', q1, q2, q3, q4, q5⟩ := ih
            exact ⟨a', n', R', srow_e1 s hs n n2 n' a (a' : Int) false p ps R R' hl hq e q5, q1, q2, ⟨by omega, by simp at g4 ⊢; omega⟩, by omega⟩
          | none =>
            rw [hml] at ih
            obtain ⟨w, n', R', q1, q2, q5⟩ := ih
            exact ⟨w, _, srow_e1 s hs n n2 n' a w true p ps R R' hl hq e q5, .inr ⟨n', R', q1, by simp at g4 ⊢; omega, rfl⟩⟩
  · have hd : s.drop n = [] := List.drop_eq_nil_of_le (by omega)
    rw [hd]
    simp only [show stop ([] : List UInt8) = true from rfl]
    exact ⟨R0.length, n, R0 ++ [[.v (.int .i64 (12)), .v (.string (B ([]))), .v (.slice none 0 0)]], srow_d s hs n R0 hl (by omega), hn, hd.symm, ⟨by simp, by simp; omega⟩, by omega⟩
end
end Go.Vsi
