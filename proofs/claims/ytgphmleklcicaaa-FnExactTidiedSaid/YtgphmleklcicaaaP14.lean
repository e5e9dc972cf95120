/- What the functions of the program, of the reference and of the law do (a part of it). -/
import Derived.Test.YtgphmleklcicaaaP13
namespace Go.Vsi
open Go.Proofs
noncomputable section
set_option maxRecDepth 100000
set_option maxHeartbeats 4000000
set_option linter.unusedSimpArgs false
set_option linter.unusedVariables false
attribute [local go_sem ↓] IX9
theorem b93 (b : UInt8) : ((b.toNat : Int) = 93) = (b = 93) := by
  rw [eq_iff_iff]
  constructor
  · intro h; exact UInt8.toNat_inj.1 (by have : (93 : UInt8).toNat = 93 := rfl; omega)
  · rintro rfl; rfl
theorem cutLen_none : ∀ l : List UInt8, mCut l = none → cutLen l = l.length
  | [], _ => rfl
  | b :: l, h => by
    unfold mCut at h
    split at h
    · cases h
    · rename_i hb
      have : mCut l = none := by
        revert h
        cases mCut l with
        | none => intro _; rfl
        | some x => intro h; cases h
      have ih := cutLen_none l this
      unfold cutLen
      rw [if_neg (show ¬ (b.toNat : Int) = 93 by rw [b93]; exact hb), ih]
      rfl
theorem cutLen_some : ∀ (l x y : List UInt8), mCut l = some (x, y) → cutLen l = x.length
  | [], x, y, h => by cases h
  | b :: l, x, y, h => by
    unfold mCut at h
    unfold cutLen
    split at h
    · rename_i hb
      obtain ⟨rfl, rfl⟩ := Prod.mk.inj (Option.some.inj h)
      rw [if_pos (show (b.toNat : Int) = 93 by rw [b93]; exact hb)]
      rfl
    · rename_i hb
      rw [if_neg (show ¬ (b.toNat : Int) = 93 by rw [b93]; exact hb)]
      cases hc : mCut l with
      | none => rw [hc] at h; cases h
      | some z =>
        obtain ⟨x', y'⟩ := z
        rw [hc] at h
        obtain ⟨rfl, rfl⟩ := Prod.mk.inj (Option.some.inj h)
        rw [cutLen_some l x' y' hc]
        rfl
/-- How a function of the reference's reader answers: good, with one piece or more; or bad. -/
def AnsS (s : List UInt8) (M : Nat) (R0 : List (List D)) (r : Option (W × List (Option Blk))) (good : Nat → Nat → List (List D) → Prop) : Option (List UInt8) → Prop
  | some rest => ∃ (a n : Nat) (R : List (List D)), r = some (.one (.c (.d (.v (.int .i64 ((a : Int)))))), hT R0 s n false R) ∧ n ≤ s.length ∧ rest = s.drop n ∧ good n a R
  | none => ∃ (w : Int) (bs : List (Option Blk)), r = some (.one (.c (.d (.v (.int .i64 (w))))), bs) ∧ ((∃ n, bs = hS s n true R0) ∨ ∃ n R, 1 ≤ R.length ∧ R.length ≤ M ∧ bs = hT R0 s n true R)
theorem nx_true {c : UInt8} {l : List UInt8} (h : nx c l = true) : l ≠ [] := by
  rintro rfl
  cases h
theorem sset_0a (M : Nat) (s : List UInt8) (n : Nat) (R0 : List (List D)) (hn : n < s.length) (hs : s.length ≤ 24) (hR : R0.length ≤ 59) (hb : nx 94 (s.drop (n + 1)) = false) (hm : mCut (s.drop (n + 1)) = none) : AnsS s M R0 (fnL Try.prog T L0 96 [.c (.ptr 0 0 0)] (hS s n false R0)) (fun n' a R => a = R0.length ∧ R.length = R0.length + 1 ∧ n + 2 < n') (mSet (s.drop (n + 1))) := by
  have e94 : ((94 : UInt8).toNat : Int) = 94 := rfl
  have hi := sis_ok 94 s (n + 1) (by omega) hs R0
  rw [e94, hb] at hi
  have ec1 : ((n + 1 : Nat) : Int) = (n : Int) + 1 := by omega
  have ec2 : ((n + 1 + 1 : Nat) : Int) = (n : Int) + 1 + 1 := by omega
  have et1 : ((n : Int) + 1).toNat = n + 1 := by omega
  have et2 : ((n : Int) + 1 + 1).toNat = n + 1 + 1 := by omega
  have hn1 : n + 1 ≤ s.length := by omega
  have L0' := fun b0 => sset_loop0 s hs 3 b0 (s.length - (n + 1)) (n + 1) (by omega)
  have L1' := fun b0 r R => sset_loop1 s hs 3 b0 r R (s.length - (n + 1)) (n + 1) (by omega)
  simp only [mSet, hb, adv, List.drop_drop, hm]
  clear hb
  have he := cutLen_none _ hm
  rw [List.length_drop] at he
  have he2 : n + 1 + cutLen (s.drop (n + 1)) = s.length := by omega
  rw [he2] at L0' L1'
  refine ⟨0, hS s s.length true R0, ?_, .inl ⟨_, rfl⟩⟩
  clear hm he he2 hR
  cases R0
  all_goals
    simp only [hS, ec1, ec2] at hi L0' L1' ⊢
    exact fn W96 Try.func96
theorem sset_0b (M : Nat) (s : List UInt8) (n : Nat) (R0 : List (List D)) (hn : n < s.length) (hs : s.length ≤ 24) (hR : R0.length ≤ 59) (hb : nx 94 (s.drop (n + 1)) = false) (y : List UInt8) (hm : mCut (s.drop (n + 1)) = some ([], y)) : AnsS s M R0 (fnL Try.prog T L0 96 [.c (.ptr 0 0 0)] (hS s n false R0)) (fun n' a R => a = R0.length ∧ R.length = R0.length + 1 ∧ n + 2 < n') (mSet (s.drop (n + 1))) := by
  have e94 : ((94 : UInt8).toNat : Int) = 94 := rfl
  have hi := sis_ok 94 s (n + 1) (by omega) hs R0
  rw [e94, hb] at hi
  have ec1 : ((n + 1 : Nat) : Int) = (n : Int) + 1 := by omega
  have ec2 : ((n + 1 + 1 : Nat) : Int) = (n : Int) + 1 + 1 := by omega
  have et1 : ((n : Int) + 1).toNat = n + 1 := by omega
  have et2 : ((n : Int) + 1 + 1).toNat = n + 1 + 1 := by omega
  have hn1 : n + 1 ≤ s.length := by omega
  have L0' := fun b0 => sset_loop0 s hs 3 b0 (s.length - (n + 1)) (n + 1) (by omega)
  have L1' := fun b0 r R => sset_loop1 s hs 3 b0 r R (s.length - (n + 1)) (n + 1) (by omega)
  simp only [mSet, hb, adv, List.drop_drop, hm]
  clear hb
  have he := cutLen_some _ _ y hm
  obtain ⟨h1, _⟩ := mCut_some _ _ y hm
  have hlen : s.length - (n + 1) = ([] : List UInt8).length + 1 + y.length := by
    have := congrArg List.length h1
    rw [List.length_drop] at this
    simp at this
    simp
    omega
  have hy : y = s.drop (n + 1 + ([] : List UInt8).length + 1) := by
    rw [show n + 1 + ([] : List UInt8).length + 1 = (n + 1) + (([] : List UInt8).length + 1) by omega, ← List.drop_drop, h1, show ([] : List UInt8) ++ 93 :: y = (([] : List UInt8) ++ [93]) ++ y by simp, List.drop_left' (by simp)]
  rw [he] at L0' L1'
  have q1 : eqI (((n + 1 + ([] : List UInt8).length : Nat)) : Int) (s.length : Int) = false := by
    simp only [eqI, decide_eq_false_iff_not]
    omega
  clear hm he h1
  simp only [List.length_nil, Nat.add_zero] at L0' L1' q1
  refine ⟨0, hS s (n + 1) true R0, ?_, .inl ⟨_, rfl⟩⟩
  clear hR hy hlen
  cases R0
  all_goals
    simp only [hS, ec1, ec2] at hi L0' L1' q1 ⊢
    exact fn W96 Try.func96
theorem sset_0c (M : Nat) (s : List UInt8) (n : Nat) (R0 : List (List D)) (hn : n < s.length) (hs : s.length ≤ 24) (hR : R0.length ≤ 59) (hb : nx 94 (s.drop (n + 1)) = false) (b : UInt8) (x y : List UInt8) (hm : mCut (s.drop (n + 1)) = some (b :: x, y)) : AnsS s M R0 (fnL Try.prog T L0 96 [.c (.ptr 0 0 0)] (hS s n false R0)) (fun n' a R => a = R0.length ∧ R.length = R0.length + 1 ∧ n + 2 < n') (mSet (s.drop (n + 1))) := by
  have e94 : ((94 : UInt8).toNat : Int) = 94 := rfl
  have hi := sis_ok 94 s (n + 1) (by omega) hs R0
  rw [e94, hb] at hi
  have ec1 : ((n + 1 : Nat) : Int) = (n : Int) + 1 := by omega
  have ec2 : ((n + 1 + 1 : Nat) : Int) = (n : Int) + 1 + 1 := by omega
  have et1 : ((n : Int) + 1).toNat = n + 1 := by omega
  have et2 : ((n : Int) + 1 + 1).toNat = n + 1 + 1 := by omega
  have hn1 : n + 1 ≤ s.length := by omega
  have L0' := fun b0 => sset_loop0 s hs 3 b0 (s.length - (n + 1)) (n + 1) (by omega)
  have L1' := fun b0 r R => sset_loop1 s hs 3 b0 r R (s.length - (n + 1)) (n + 1) (by omega)
  simp only [mSet, hb, adv, List.drop_drop, hm]
  clear hb
  have he := cutLen_some _ _ y hm
  obtain ⟨h1, _⟩ := mCut_some _ _ y hm
  have hlen : s.length - (n + 1) = (b :: x).length + 1 + y.length := by
    have := congrArg List.length h1
    rw [List.length_drop] at this
    simp at this
    simp
    omega
  have hy : y = s.drop (n + 1 + (b :: x).length + 1) := by
    rw [show n + 1 + (b :: x).length + 1 = (n + 1) + ((b :: x).length + 1) by omega, ← List.drop_drop, h1, show (b :: x) ++ 93 :: y = ((b :: x) ++ [93]) ++ y by simp, List.drop_left' (by simp)]
  rw [he] at L0' L1'
  have q1 : eqI (((n + 1 + (b :: x).length : Nat)) : Int) (s.length : Int) = false := by
    simp only [eqI, decide_eq_false_iff_not]
    omega
  clear hm he h1
  have q2 : eqI (((n + 1 + (b :: x).length : Nat)) : Int) ((n : Int) + 1) = false := by
    simp only [eqI, decide_eq_false_iff_not, List.length_cons]
    omega
  have h3 : n + 1 < n + 1 + (b :: x).length := by simp
  have h4 : n + 1 + (b :: x).length < s.length := by omega
  generalize n + 1 + (b :: x).length = e at L0' L1' q1 q2 hy h3 h4
  have hp := fun t => sput_nil 3 t s (e + 1) false R0 hR
  have ee : ((e + 1 : Nat) : Int) = (e : Int) + 1 := by omega
  have hle : (e : Int) ≤ (s.length : Int) := by omega
  refine ⟨R0.length, e + 1, R0 ++ [[.v (.int .i64 (3)), .v (.string (B ((s.drop (n + 1)).take (e - (n + 1))))), .v (.slice none 0 0)]], ?_, by omega, hy, rfl, by simp, by omega⟩
  clear hR hy hlen
  cases R0
  all_goals
    simp only [hS, hT, ec1, ec2, ee] at hi hp L0' L1' q1 ⊢
    refine nfW true (fun _ => W96.2) W96.1 Try.func96 rfl rfl fun c ht hr => ?_; simp only [okW, List.length_cons, List.length_nil, Nat.reduceAdd, firstReg, and_true] at c; (try simp (maxSteps := 4000000) (disch := first | assumption | omega) only [go_sem, *, arr_all, Option.isSome_some, hi, L0', L1', q1, q2, hp, et1, et2, Option.toArray, List.length_append, ↓bin_eqI, ↓bin_neI, Nat.reduceAdd, Nat.reduceSub, Nat.reduceMul, Nat.reduceBEq, Nat.reduceLeDiff, Nat.reduceLT, Nat.reduceDiv, Nat.reduceMod]); repeat' ((first | with_reducible first | refine caK (fun hb => ?_) fun hb => ?_ | refine caG (fun hb => ?_) fun hb => ?_ | refine caP (fun hb => ?_) fun hb => ?_ | refine caH (fun hb => ?_) fun hb => ?_ | refine caQ (fun hb => ?_) fun hb => ?_ | refine ite_cases (fun hb => ?_) fun hb => ?_ | rw [drwK_ok rfl]) <;> try simp (maxSteps := 4000000) (disch := first | assumption | omega) only [go_sem, *, arr_all, Option.isSome_some, hi, L0', L1', q1, q2, hp, et1, et2, Option.toArray, List.length_append, ↓bin_eqI, ↓bin_neI, Nat.reduceAdd, Nat.reduceSub, Nat.reduceMul, Nat.reduceBEq, Nat.reduceLeDiff, Nat.reduceLT, Nat.reduceDiv, Nat.reduceMod])
theorem sset_1a (M : Nat) (s : List UInt8) (n : Nat) (R0 : List (List D)) (hn : n < s.length) (hs : s.length ≤ 24) (hR : R0.length ≤ 59) (hb : nx 94 (s.drop (n + 1)) = true) (hm : mCut (s.drop (n + 1 + 1)) = none) : AnsS s M R0 (fnL Try.prog T L0 96 [.c (.ptr 0 0 0)] (hS s n false R0)) (fun n' a R => a = R0.length ∧ R.length = R0.length + 1 ∧ n + 2 < n') (mSet (s.drop (n + 1))) := by
  have e94 : ((94 : UInt8).toNat : Int) = 94 := rfl
  have hi := sis_ok 94 s (n + 1) (by omega) hs R0
  rw [e94, hb] at hi
  have ec1 : ((n + 1 : Nat) : Int) = (n : Int) + 1 := by omega
  have ec2 : ((n + 1 + 1 : Nat) : Int) = (n : Int) + 1 + 1 := by omega
  have et1 : ((n : Int) + 1).toNat = n + 1 := by omega
  have et2 : ((n : Int) + 1 + 1).toNat = n + 1 + 1 := by omega
  have hn1 : n + 1 + 1 ≤ s.length := by
    have := nx_true hb
    rw [ne_eq, List.drop_eq_nil_iff] at this
    omega
  have L0' := fun b0 => sset_loop0 s hs 4 b0 (s.length - (n + 1 + 1)) (n + 1 + 1) (by omega)
  have L1' := fun b0 r R => sset_loop1 s hs 4 b0 r R (s.length - (n + 1 + 1)) (n + 1 + 1) (by omega)
  simp only [mSet, hb, adv, List.drop_drop, hm]
  clear hb
  have he := cutLen_none _ hm
  rw [List.length_drop] at he
  have he2 : n + 1 + 1 + cutLen (s.drop (n + 1 + 1)) = s.length := by omega
  rw [he2] at L0' L1'
  refine ⟨0, hS s s.length true R0, ?_, .inl ⟨_, rfl⟩⟩
  clear hm he he2 hR
  cases R0
  all_goals
    simp only [hS, ec1, ec2] at hi L0' L1' ⊢
    exact fn W96 Try.func96
theorem sset_1b (M : Nat) (s : List UInt8) (n : Nat) (R0 : List (List D)) (hn : n < s.length) (hs : s.length ≤ 24) (hR : R0.length ≤ 59) (hb : nx 94 (s.drop (n + 1)) = true) (y : List UInt8) (hm : mCut (s.drop (n + 1 + 1)) = some ([], y)) : AnsS s M R0 (fnL Try.prog T L0 96 [.c (.ptr 0 0 0)] (hS s n false R0)) (fun n' a R => a = R0.length ∧ R.length = R0.length + 1 ∧ n + 2 < n') (mSet (s.drop (n + 1))) := by
  have e94 : ((94 : UInt8).toNat : Int) = 94 := rfl
  have hi := sis_ok 94 s (n + 1) (by omega) hs R0
  rw [e94, hb] at hi
  have ec1 : ((n + 1 : Nat) : Int) = (n : Int) + 1 := by omega
  have ec2 : ((n + 1 + 1 : Nat) : Int) = (n : Int) + 1 + 1 := by omega
  have et1 : ((n : Int) + 1).toNat = n + 1 := by omega
  have et2 : ((n : Int) + 1 + 1).toNat = n + 1 + 1 := by omega
  have hn1 : n + 1 + 1 ≤ s.length := by
    have := nx_true hb
    rw [ne_eq, List.drop_eq_nil_iff] at this
    omega
  have L0' := fun b0 => sset_loop0 s hs 4 b0 (s.length - (n + 1 + 1)) (n + 1 + 1) (by omega)
  have L1' := fun b0 r R => sset_loop1 s hs 4 b0 r R (s.length - (n + 1 + 1)) (n + 1 + 1) (by omega)
  simp only [mSet, hb, adv, List.drop_drop, hm]
  clear hb
  have he := cutLen_some _ _ y hm
  obtain ⟨h1, _⟩ := mCut_some _ _ y hm
  have hlen : s.length - (n + 1 + 1) = ([] : List UInt8).length + 1 + y.length := by
    have := congrArg List.length h1
    rw [List.length_drop] at this
    simp at this
    simp
    omega
  have hy : y = s.drop (n + 1 + 1 + ([] : List UInt8).length + 1) := by
    rw [show n + 1 + 1 + ([] : List UInt8).length + 1 = (n + 1 + 1) + (([] : List UInt8).length + 1) by omega, ← List.drop_drop, h1, show ([] : List UInt8) ++ 93 :: y = (([] : List UInt8) ++ [93]) ++ y by simp, List.drop_left' (by simp)]
  rw [he] at L0' L1'
  have q1 : eqI (((n + 1 + 1 + ([] : List UInt8).length : Nat)) : Int) (s.length : Int) = false := by
    simp only [eqI, decide_eq_false_iff_not]
    omega
  clear hm he h1
  simp only [List.length_nil, Nat.add_zero] at L0' L1' q1
  refine ⟨0, hS s (n + 1 + 1) true R0, ?_, .inl ⟨_, rfl⟩⟩
  clear hR hy hlen
  cases R0
  all_goals
    simp only [hS, ec1, ec2] at hi L0' L1' q1 ⊢
    exact fn W96 Try.func96
theorem sset_1c (M : Nat) (s : List UInt8) (n : Nat) (R0 : List (List D)) (hn : n < s.length) (hs : s.length ≤ 24) (hR : R0.length ≤ 59) (hb : nx 94 (s.drop (n + 1)) = true) (b : UInt8) (x y : List UInt8) (hm : mCut (s.drop (n + 1 + 1)) = some (b :: x, y)) : AnsS s M R0 (fnL Try.prog T L0 96 [.c (.ptr 0 0 0)] (hS s n false R0)) (fun n' a R => a = R0.length ∧ R.length = R0.length + 1 ∧ n + 2 < n') (mSet (s.drop (n + 1))) := by
  have e94 : ((94 : UInt8).toNat : Int) = 94 := rfl
  have hi := sis_ok 94 s (n + 1) (by omega) hs R0
  rw [e94, hb] at hi
  have ec1 : ((n + 1 : Nat) : Int) = (n : Int) + 1 := by omega
  have ec2 : ((n + 1 + 1 : Nat) : Int) = (n : Int) + 1 + 1 := by omega
  have et1 : ((n : Int) + 1).toNat = n + 1 := by omega
  have et2 : ((n : Int) + 1 + 1).toNat = n + 1 + 1 := by omega
  have hn1 : n + 1 + 1 ≤ s.length := by
    have := nx_true hb
    rw [ne_eq, List.drop_eq_nil_iff] at this
    omega
  have L0' := fun b0 => sset_loop0 s hs 4 b0 (s.length - (n + 1 + 1)) (n + 1 + 1) (by omega)
  have L1' := fun b0 r R => sset_loop1 s hs 4 b0 r R (s.length - (n + 1 + 1)) (n + 1 + 1) (by omega)
  simp only [mSet, hb, adv, List.drop_drop, hm]
  clear hb
  have he := cutLen_some _ _ y hm
  obtain ⟨h1, _⟩ := mCut_some _ _ y hm
  have hlen : s.length - (n + 1 + 1) = (b :: x).length + 1 + y.length := by
    have := congrArg List.length h1
    rw [List.length_drop] at this
    simp at this
    simp
    omega
  have hy : y = s.drop (n + 1 + 1 + (b :: x).length + 1) := by
    rw [show n + 1 + 1 + (b :: x).length + 1 = (n + 1 + 1) + ((b :: x).length + 1) by omega, ← List.drop_drop, h1, show (b :: x) ++ 93 :: y = ((b :: x) ++ [93]) ++ y by simp, List.drop_left' (by simp)]
  rw [he] at L0' L1'
  have q1 : eqI (((n + 1 + 1 + (b :: x).length : Nat)) : Int) (s.length : Int) = false := by
    simp only [eqI, decide_eq_false_iff_not]
    omega
  clear hm he h1
  have q2 : eqI (((n + 1 + 1 + (b :: x).length : Nat)) : Int) ((n : Int) + 1 + 1) = false := by
    simp only [eqI, decide_eq_false_iff_not, List.length_cons]
    omega
  have h3 : n + 1 + 1 < n + 1 + 1 + (b :: x).length := by simp
  have h4 : n + 1 + 1 + (b :: x).length < s.length := by omega
  generalize n + 1 + 1 + (b :: x).length = e at L0' L1' q1 q2 hy h3 h4
  have hp := fun t => sput_nil 4 t s (e + 1) false R0 hR
  have ee : ((e + 1 : Nat) : Int) = (e : Int) + 1 := by omega
  have hle : (e : Int) ≤ (s.length : Int) := by omega
  refine ⟨R0.length, e + 1, R0 ++ [[.v (.int .i64 (4)), .v (.string (B ((s.drop (n + 1 + 1)).take (e - (n + 1 + 1))))), .v (.slice none 0 0)]], ?_, by omega, hy, rfl, by simp, by omega⟩
  clear hR hy hlen
  cases R0
  all_goals
    simp only [hS, hT, ec1, ec2, ee] at hi hp L0' L1' q1 ⊢
    refine nfW true (fun _ => W96.2) W96.1 Try.func96 rfl rfl fun c ht hr => ?_; simp only [okW, List.length_cons, List.length_nil, Nat.reduceAdd, firstReg, and_true] at c; (try simp (maxSteps := 4000000) (disch := first | assumption | omega) only [go_sem, *, arr_all, Option.isSome_some, hi, L0', L1', q1, q2, hp, et1, et2, Option.toArray, List.length_append, ↓bin_eqI, ↓bin_neI, Nat.reduceAdd, Nat.reduceSub, Nat.reduceMul, Nat.reduceBEq, Nat.reduceLeDiff, Nat.reduceLT, Nat.reduceDiv, Nat.reduceMod]); repeat' ((first | with_reducible first | refine caK (fun hb => ?_) fun hb => ?_ | refine caG (fun hb => ?_) fun hb => ?_ | refine caP (fun hb => ?_) fun hb => ?_ | refine caH (fun hb => ?_) fun hb => ?_ | refine caQ (fun hb => ?_) fun hb => ?_ | refine ite_cases (fun hb => ?_) fun hb => ?_ | rw [drwK_ok rfl]) <;> try simp (maxSteps := 4000000) (disch := first | assumption | omega) only [go_sem, *, arr_all, Option.isSome_some, hi, L0', L1', q1, q2, hp, et1, et2, Option.toArray, List.length_append, ↓bin_eqI, ↓bin_neI, Nat.reduceAdd, Nat.reduceSub, Nat.reduceMul, Nat.reduceBEq, Nat.reduceLeDiff, Nat.reduceLT, Nat.reduceDiv, Nat.reduceMod])
theorem sset_ok (M : Nat) (s : List UInt8) (n : Nat) (R0 : List (List D)) (hn : n < s.length) (hs : s.length ≤ 24) (hR : R0.length ≤ 59) : AnsS s M R0 (fnL Try.prog T L0 96 [.c (.ptr 0 0 0)] (hS s n false R0)) (fun n' a R => a = R0.length ∧ R.length = R0.length + 1 ∧ n + 2 < n') (mSet (s.drop (n + 1))) := by
  cases hb : nx 94 (s.drop (n + 1)) with
  | false =>
    cases hm : mCut (s.drop (n + 1)) with
    | none => exact sset_0a M s n R0 hn hs hR hb hm
    | some z =>
      obtain ⟨x, y⟩ := z
      cases x with
      | nil => exact sset_0b M s n R0 hn hs hR hb y hm
      | cons b x => exact sset_0c M s n R0 hn hs hR hb b x y hm
  | true =>
    cases hm : mCut (s.drop (n + 1 + 1)) with
    | none => exact sset_1a M s n R0 hn hs hR hb hm
    | some z =>
      obtain ⟨x, y⟩ := z
      cases x with
      | nil => exact sset_1b M s n R0 hn hs hR hb y hm
      | cons b x => exact sset_1c M s n R0 hn hs hR hb b x y hm
end
end Go.Vsi
