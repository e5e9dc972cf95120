/- What the functions of the program, of the reference and of the law do (a part of it). -/
import Derived.Test.YtgphmleklcicaaaP14
namespace Go.Vsi
open Go.Proofs
noncomputable section
set_option maxRecDepth 100000
set_option maxHeartbeats 4000000
set_option linter.unusedSimpArgs false
set_option linter.unusedVariables false
attribute [local go_sem] IX9
theorem sis_ne (c : UInt8) (s : List UInt8) (n : Nat) (hn : n ≤ s.length) (hs : s.length ≤ 24) (R : List (List D)) (hR : 1 ≤ R.length) : fnL Try.prog T L0 79 [.c (.ptr 0 0 0), .c (.d (.v (.int .u8 ((c.toNat : Int)))))] [some (.var [.d (.v (.string (B (s)))), .d (.v (.int .i64 ((n : Int)))), .d (.v (.bool (false))), .arr 1 0 R.length]), some (.arr 3 R)] = some (.one (.c (.d (.v (.bool (nx c (s.drop n)))))), [some (.var [.d (.v (.string (B (s)))), .d (.v (.int .i64 ((n : Int)))), .d (.v (.bool (false))), .arr 1 0 R.length]), some (.arr 3 R)]) := by
  cases R with
  | nil => simp at hR
  | cons p ps => exact sis_ok c s n hn hs (p :: ps)
theorem sis_bad (c : Int) (s : List UInt8) (n : Nat) (R : List (List D)) : fnL Try.prog T L0 79 [.c (.ptr 0 0 0), .c (.d (.v (.int .u8 (c))))] (hS s n true R) = some (.one (.c (.d (.v (.bool (false))))), hS s n true R) := by
  cases R
  all_goals
    simp only [hS]
    exact fn W79 Try.func79
theorem sis_nbad (c : Int) (s : List UInt8) (n : Nat) (R : List (List D)) (hR : 1 ≤ R.length) : fnL Try.prog T L0 79 [.c (.ptr 0 0 0), .c (.d (.v (.int .u8 (c))))] [some (.var [.d (.v (.string (B (s)))), .d (.v (.int .i64 ((n : Int)))), .d (.v (.bool (true))), .arr 1 0 R.length]), some (.arr 3 R)] = some (.one (.c (.d (.v (.bool (false))))), [some (.var [.d (.v (.string (B (s)))), .d (.v (.int .i64 ((n : Int)))), .d (.v (.bool (true))), .arr 1 0 R.length]), some (.arr 3 R)]) := by
  cases R with
  | nil => simp at hR
  | cons p ps => exact sis_bad c s n (p :: ps)
def GoodS (c : Nat) (s : List UInt8) (n : Nat) (R0 : List (List D)) (n' : Nat) (a : Nat) (R : List (List D)) : Prop :=
  (R0.length < R.length ∧ R.length + 2 * (s.length - n') + 1 ≤ R0.length + 2 * (s.length - n) + 2 * c) ∧ (s.length - n') + (1 - c) ≤ s.length - n
def PIS (f : FuncId) (m : Nat → List UInt8 → Option (List UInt8)) (c k0 k : Nat) : Prop := ∀ (s : List UInt8) (n : Nat) (R0 : List (List D)), n ≤ s.length → 6 * (s.length - n) + k0 ≤ k → R0.length + 2 * (s.length - n) ≤ 58 + (1 - c) → s.length ≤ 24 →
  AnsS s (R0.length + 2 * (s.length - n) + 2 * c + 1) R0 (fnL Try.prog T L0 f [.c (.ptr 0 0 0)] (hS s n false R0)) (GoodS c s n R0) (m k (s.drop n))
theorem convB (b : UInt8) : UInt8.ofNat b.toNat = b := by simp
theorem sthing_94 (k : Nat) (h : PIS 67 mAlt 1 6 k) (s : List UInt8) (n : Nat) (R0 : List (List D)) (hn : n ≤ s.length) (hk : 6 * (s.length - n) + 3 ≤ k + 1) (hlen : R0.length + 2 * (s.length - n) ≤ 58 + (1 - 0)) (hs : s.length ≤ 24) (hl : n < s.length) (c94 : (s[n].toNat : Int) = 94) : AnsS s (R0.length + 2 * (s.length - n) + 2 * 0 + 1) R0 (fnL Try.prog T L0 91 [.c (.ptr 0 0 0)] (hS s n false R0)) (GoodS 0 s n R0) (mBase (k + 1) (s.drop n)) := by
  have hi := ixAt s n hl
  have hl2 : ¬ (s.length : Int) ≤ (n : Int) := by omega
  have hl3 : (n : Int) < (s.length : Int) := by omega
  have ec1 : ((n + 1 : Nat) : Int) = (n : Int) + 1 := by omega
  have ec2 : ((n + 1 + 1 : Nat) : Int) = (n : Int) + 1 + 1 := by omega
  have hp := fun op t => sput_nil op t s (n + 1) false R0 (by omega)
  rw [List.drop_eq_getElem_cons hl]
  simp only [mBase, nx, List.drop_succ_cons, List.drop_zero, show ((94 : UInt8).toNat : Int) = 94 from rfl, show ((36 : UInt8).toNat : Int) = 36 from rfl, show ((46 : UInt8).toNat : Int) = 46 from rfl, show ((91 : UInt8).toNat : Int) = 91 from rfl, show ((40 : UInt8).toNat : Int) = 40 from rfl]
  generalize s[n] = b at hi c94 ⊢
  rw [c94] at hi
  simp only [c94, decide_true]
  refine ⟨R0.length, n + 1, R0 ++ [[.v (.int .i64 (10)), .v (.string (B ([]))), .v (.slice none 0 0)]], ?_, by omega, rfl, ⟨by simp, by simp; omega⟩, by omega⟩
  clear c94 hlen h
  cases R0
  all_goals
    simp only [hS, hT, ec1] at hp ⊢
    refine nfW true (fun _ => W91.2) W91.1 Try.func91 rfl rfl fun c ht hr => ?_; simp only [okW, List.length_cons, List.length_nil, Nat.reduceAdd, firstReg, and_true] at c; (try simp (maxSteps := 4000000) (disch := first | assumption | omega) only [go_sem, *, arr_all, Option.isSome_some, hi, hl2, hl3, hp, B_empty, List.length_append, ↓bin_eqI, ↓bin_neI, Nat.reduceAdd, Nat.reduceSub, Nat.reduceMul, Nat.reduceBEq, Nat.reduceLeDiff, Nat.reduceLT, Nat.reduceDiv, Nat.reduceMod]); repeat' ((first | with_reducible first | refine caK (fun hb => ?_) fun hb => ?_ | refine caG (fun hb => ?_) fun hb => ?_ | refine caP (fun hb => ?_) fun hb => ?_ | refine caH (fun hb => ?_) fun hb => ?_ | refine caQ (fun hb => ?_) fun hb => ?_ | refine ite_cases (fun hb => ?_) fun hb => ?_ | rw [drwK_ok rfl]) <;> try simp (maxSteps := 4000000) (disch := first | assumption | omega) only [go_sem, *, arr_all, Option.isSome_some, hi, hl2, hl3, hp, B_empty, List.length_append, ↓bin_eqI, ↓bin_neI, Nat.reduceAdd, Nat.reduceSub, Nat.reduceMul, Nat.reduceBEq, Nat.reduceLeDiff, Nat.reduceLT, Nat.reduceDiv, Nat.reduceMod])
theorem sthing_36 (k : Nat) (h : PIS 67 mAlt 1 6 k) (s : List UInt8) (n : Nat) (R0 : List (List D)) (hn : n ≤ s.length) (hk : 6 * (s.length - n) + 3 ≤ k + 1) (hlen : R0.length + 2 * (s.length - n) ≤ 58 + (1 - 0)) (hs : s.length ≤ 24) (hl : n < s.length) (c94 : ¬ (s[n].toNat : Int) = 94) (c36 : (s[n].toNat : Int) = 36) : AnsS s (R0.length + 2 * (s.length - n) + 2 * 0 + 1) R0 (fnL Try.prog T L0 91 [.c (.ptr 0 0 0)] (hS s n false R0)) (GoodS 0 s n R0) (mBase (k + 1) (s.drop n)) := by
  have hi := ixAt s n hl
  have hl2 : ¬ (s.length : Int) ≤ (n : Int) := by omega
  have hl3 : (n : Int) < (s.length : Int) := by omega
  have ec1 : ((n + 1 : Nat) : Int) = (n : Int) + 1 := by omega
  have ec2 : ((n + 1 + 1 : Nat) : Int) = (n : Int) + 1 + 1 := by omega
  have hp := fun op t => sput_nil op t s (n + 1) false R0 (by omega)
  rw [List.drop_eq_getElem_cons hl]
  simp only [mBase, nx, List.drop_succ_cons, List.drop_zero, show ((94 : UInt8).toNat : Int) = 94 from rfl, show ((36 : UInt8).toNat : Int) = 36 from rfl, show ((46 : UInt8).toNat : Int) = 46 from rfl, show ((91 : UInt8).toNat : Int) = 91 from rfl, show ((40 : UInt8).toNat : Int) = 40 from rfl]
  generalize s[n] = b at hi c94 c36 ⊢
  have q94 : eqI (b.toNat : Int) 94 = false := by simp [eqI, c94]
  simp only [decF c94]
  clear c94
  rw [c36] at hi
  simp only [c36, decide_true]
  refine ⟨R0.length, n + 1, R0 ++ [[.v (.int .i64 (11)), .v (.string (B ([]))), .v (.slice none 0 0)]], ?_, by omega, rfl, ⟨by simp, by simp; omega⟩, by omega⟩
  clear c36 hlen h
  cases R0
  all_goals
    simp only [hS, hT, ec1] at hp ⊢
    refine nfW true (fun _ => W91.2) W91.1 Try.func91 rfl rfl fun c ht hr => ?_; simp only [okW, List.length_cons, List.length_nil, Nat.reduceAdd, firstReg, and_true] at c; (try simp (maxSteps := 4000000) (disch := first | assumption | omega) only [go_sem, *, arr_all, Option.isSome_some, hi, hl2, hl3, hp, B_empty, List.length_append, ↓bin_eqI, ↓bin_neI, Nat.reduceAdd, Nat.reduceSub, Nat.reduceMul, Nat.reduceBEq, Nat.reduceLeDiff, Nat.reduceLT, Nat.reduceDiv, Nat.reduceMod]); repeat' ((first | with_reducible first | refine caK (fun hb => ?_) fun hb => ?_ | refine caG (fun hb => ?_) fun hb => ?_ | refine caP (fun hb => ?_) fun hb => ?_ | refine caH (fun hb => ?_) fun hb => ?_ | refine caQ (fun hb => ?_) fun hb => ?_ | refine ite_cases (fun hb => ?_) fun hb => ?_ | rw [drwK_ok rfl]) <;> try simp (maxSteps := 4000000) (disch := first | assumption | omega) only [go_sem, *, arr_all, Option.isSome_some, hi, hl2, hl3, hp, B_empty, List.length_append, ↓bin_eqI, ↓bin_neI, Nat.reduceAdd, Nat.reduceSub, Nat.reduceMul, Nat.reduceBEq, Nat.reduceLeDiff, Nat.reduceLT, Nat.reduceDiv, Nat.reduceMod])
theorem sthing_46 (k : Nat) (h : PIS 67 mAlt 1 6 k) (s : List UInt8) (n : Nat) (R0 : List (List D)) (hn : n ≤ s.length) (hk : 6 * (s.length - n) + 3 ≤ k + 1) (hlen : R0.length + 2 * (s.length - n) ≤ 58 + (1 - 0)) (hs : s.length ≤ 24) (hl : n < s.length) (c94 : ¬ (s[n].toNat : Int) = 94) (c36 : ¬ (s[n].toNat : Int) = 36) (c46 : (s[n].toNat : Int) = 46) : AnsS s (R0.length + 2 * (s.length - n) + 2 * 0 + 1) R0 (fnL Try.prog T L0 91 [.c (.ptr 0 0 0)] (hS s n false R0)) (GoodS 0 s n R0) (mBase (k + 1) (s.drop n)) := by
  have hi := ixAt s n hl
  have hl2 : ¬ (s.length : Int) ≤ (n : Int) := by omega
  have hl3 : (n : Int) < (s.length : Int) := by omega
  have ec1 : ((n + 1 : Nat) : Int) = (n : Int) + 1 := by omega
  have ec2 : ((n + 1 + 1 : Nat) : Int) = (n : Int) + 1 + 1 := by omega
  have hp := fun op t => sput_nil op t s (n + 1) false R0 (by omega)
  rw [List.drop_eq_getElem_cons hl]
  simp only [mBase, nx, List.drop_succ_cons, List.drop_zero, show ((94 : UInt8).toNat : Int) = 94 from rfl, show ((36 : UInt8).toNat : Int) = 36 from rfl, show ((46 : UInt8).toNat : Int) = 46 from rfl, show ((91 : UInt8).toNat : Int) = 91 from rfl, show ((40 : UInt8).toNat : Int) = 40 from rfl]
  generalize s[n] = b at hi c94 c36 c46 ⊢
  have q94 : eqI (b.toNat : Int) 94 = false := by simp [eqI, c94]
  simp only [decF c94]
  clear c94
  have q36 : eqI (b.toNat : Int) 36 = false := by simp [eqI, c36]
  simp only [decF c36]
  clear c36
  rw [c46] at hi
  simp only [c46, decide_true]
  refine ⟨R0.length, n + 1, R0 ++ [[.v (.int .i64 (2)), .v (.string (B ([]))), .v (.slice none 0 0)]], ?_, by omega, rfl, ⟨by simp, by simp; omega⟩, by omega⟩
  clear c46 hlen h
  cases R0
  all_goals
    simp only [hS, hT, ec1] at hp ⊢
    refine nfW true (fun _ => W91.2) W91.1 Try.func91 rfl rfl fun c ht hr => ?_; simp only [okW, List.length_cons, List.length_nil, Nat.reduceAdd, firstReg, and_true] at c; (try simp (maxSteps := 4000000) (disch := first | assumption | omega) only [go_sem, *, arr_all, Option.isSome_some, hi, hl2, hl3, hp, B_empty, List.length_append, ↓bin_eqI, ↓bin_neI, Nat.reduceAdd, Nat.reduceSub, Nat.reduceMul, Nat.reduceBEq, Nat.reduceLeDiff, Nat.reduceLT, Nat.reduceDiv, Nat.reduceMod]); repeat' ((first | with_reducible first | refine caK (fun hb => ?_) fun hb => ?_ | refine caG (fun hb => ?_) fun hb => ?_ | refine caP (fun hb => ?_) fun hb => ?_ | refine caH (fun hb => ?_) fun hb => ?_ | refine caQ (fun hb => ?_) fun hb => ?_ | refine ite_cases (fun hb => ?_) fun hb => ?_ | rw [drwK_ok rfl]) <;> try simp (maxSteps := 4000000) (disch := first | assumption | omega) only [go_sem, *, arr_all, Option.isSome_some, hi, hl2, hl3, hp, B_empty, List.length_append, ↓bin_eqI, ↓bin_neI, Nat.reduceAdd, Nat.reduceSub, Nat.reduceMul, Nat.reduceBEq, Nat.reduceLeDiff, Nat.reduceLT, Nat.reduceDiv, Nat.reduceMod])
theorem sthing_91a (k : Nat) (h : PIS 67 mAlt 1 6 k) (s : List UInt8) (n : Nat) (R0 : List (List D)) (hn : n ≤ s.length) (hk : 6 * (s.length - n) + 3 ≤ k + 1) (hlen : R0.length + 2 * (s.length - n) ≤ 58 + (1 - 0)) (hs : s.length ≤ 24) (hl : n < s.length) (c94 : ¬ (s[n].toNat : Int) = 94) (c36 : ¬ (s[n].toNat : Int) = 36) (c46 : ¬ (s[n].toNat : Int) = 46) (c91 : (s[n].toNat : Int) = 91) (hm : mSet (s.drop (n + 1)) = none) : AnsS s (R0.length + 2 * (s.length - n) + 2 * 0 + 1) R0 (fnL Try.prog T L0 91 [.c (.ptr 0 0 0)] (hS s n false R0)) (GoodS 0 s n R0) (mBase (k + 1) (s.drop n)) := by
  have hi := ixAt s n hl
  have hl2 : ¬ (s.length : Int) ≤ (n : Int) := by omega
  have hl3 : (n : Int) < (s.length : Int) := by omega
  have ec1 : ((n + 1 : Nat) : Int) = (n : Int) + 1 := by omega
  have ec2 : ((n + 1 + 1 : Nat) : Int) = (n : Int) + 1 + 1 := by omega
  have hset := sset_ok (R0.length + 2 * (s.length - n) + 2 * 0 + 1) s n R0 hl hs (by omega)
  rw [List.drop_eq_getElem_cons hl]
  simp only [mBase, nx, List.drop_succ_cons, List.drop_zero, show ((94 : UInt8).toNat : Int) = 94 from rfl, show ((36 : UInt8).toNat : Int) = 36 from rfl, show ((46 : UInt8).toNat : Int) = 46 from rfl, show ((91 : UInt8).toNat : Int) = 91 from rfl, show ((40 : UInt8).toNat : Int) = 40 from rfl]
  generalize s[n] = b at hi c94 c36 c46 c91 ⊢
  have q94 : eqI (b.toNat : Int) 94 = false := by simp [eqI, c94]
  simp only [decF c94]
  clear c94
  have q36 : eqI (b.toNat : Int) 36 = false := by simp [eqI, c36]
  simp only [decF c36]
  clear c36
  have q46 : eqI (b.toNat : Int) 46 = false := by simp [eqI, c46]
  simp only [decF c46]
  clear c46
  rw [c91] at hi
  simp only [c91, decide_true, hm]
  rw [hm] at hset
  obtain ⟨w, bs, e, hbs⟩ := hset
  refine ⟨w, bs, ?_, hbs⟩
  clear hm hlen h c91
  rcases hbs with ⟨n', rfl⟩ | ⟨n', R, z1, z2, rfl⟩
  all_goals
    cases R0
    all_goals
      simp only [hS, hT] at e ⊢
      exact fn W91 Try.func91
theorem sthing_91b (k : Nat) (h : PIS 67 mAlt 1 6 k) (s : List UInt8) (n : Nat) (R0 : List (List D)) (hn : n ≤ s.length) (hk : 6 * (s.length - n) + 3 ≤ k + 1) (hlen : R0.length + 2 * (s.length - n) ≤ 58 + (1 - 0)) (hs : s.length ≤ 24) (hl : n < s.length) (c94 : ¬ (s[n].toNat : Int) = 94) (c36 : ¬ (s[n].toNat : Int) = 36) (c46 : ¬ (s[n].toNat : Int) = 46) (c91 : (s[n].toNat : Int) = 91) (rest : List UInt8) (hm : mSet (s.drop (n + 1)) = some rest) : AnsS s (R0.length + 2 * (s.length - n) + 2 * 0 + 1) R0 (fnL Try.prog T L0 91 [.c (.ptr 0 0 0)] (hS s n false R0)) (GoodS 0 s n R0) (mBase (k + 1) (s.drop n)) := by
  have hi := ixAt s n hl
  have hl2 : ¬ (s.length : Int) ≤ (n : Int) := by omega
  have hl3 : (n : Int) < (s.length : Int) := by omega
  have ec1 : ((n + 1 : Nat) : Int) = (n : Int) + 1 := by omega
  have ec2 : ((n + 1 + 1 : Nat) : Int) = (n : Int) + 1 + 1 := by omega
  have hset := sset_ok (R0.length + 2 * (s.length - n) + 2 * 0 + 1) s n R0 hl hs (by omega)
  rw [List.drop_eq_getElem_cons hl]
  simp only [mBase, nx, List.drop_succ_cons, List.drop_zero, show ((94 : UInt8).toNat : Int) = 94 from rfl, show ((36 : UInt8).toNat : Int) = 36 from rfl, show ((46 : UInt8).toNat : Int) = 46 from rfl, show ((91 : UInt8).toNat : Int) = 91 from rfl, show ((40 : UInt8).toNat : Int) = 40 from rfl]
  generalize s[n] = b at hi c94 c36 c46 c91 ⊢
  have q94 : eqI (b.toNat : Int) 94 = false := by simp [eqI, c94]
  simp only [decF c94]
  clear c94
  have q36 : eqI (b.toNat : Int) 36 = false := by simp [eqI, c36]
  simp only [decF c36]
  clear c36
  have q46 : eqI (b.toNat : Int) 46 = false := by simp [eqI, c46]
  simp only [decF c46]
  clear c46
  rw [c91] at hi
  simp only [c91, decide_true, hm]
  rw [hm] at hset
  obtain ⟨a, n', R, e, g1, g2, g3, g4, g5⟩ := hset
  refine ⟨a, n', R, ?_, g1, g2, ⟨by omega, by omega⟩, by omega⟩
  clear hm hlen g1 g2 g3 g4 g5 h c91
  cases R0
  all_goals
    simp only [hS, hT] at e ⊢
    exact fn W91 Try.func91
end
end Go.Vsi
