/- What the functions of the program, of the reference and of the law do (a part of it). -/
import Derived.Test.YtgphmleklcicaaaP16
import Derived.Test.YtgphmleklcicaaaP17
import Derived.Test.YtgphmleklcicaaaP21
namespace Go.Vsi
open Go.Proofs
noncomputable section
set_option maxRecDepth 100000
set_option maxHeartbeats 4000000
set_option linter.unusedSimpArgs false
set_option linter.unusedVariables false
attribute [local go_sem] IX9
theorem sthing_db (k : Nat) (h : PIS 67 mAlt 1 6 k) (s : List UInt8) (n : Nat) (R0 : List (List D)) (hn : n ≤ s.length) (hk : 6 * (s.length - n) + 3 ≤ k + 1) (hlen : R0.length + 2 * (s.length - n) ≤ 58 + (1 - 0)) (hs : s.length ≤ 24) (hl : n < s.length) (c94 : ¬ (s[n].toNat : Int) = 94) (c36 : ¬ (s[n].toNat : Int) = 36) (c46 : ¬ (s[n].toNat : Int) = 46) (c91 : ¬ (s[n].toNat : Int) = 91) (c40 : ¬ (s[n].toNat : Int) = 40) (c92 : ¬ (s[n].toNat : Int) = 92) (hsp : spec s[n] = true) : AnsS s (R0.length + 2 * (s.length - n) + 2 * 0 + 1) R0 (fnL Try.prog T L0 91 [.c (.ptr 0 0 0)] (hS s n false R0)) (GoodS 0 s n R0) (mBase (k + 1) (s.drop n)) := by
  have hi := ixAt s n hl
  have hl2 : ¬ (s.length : Int) ≤ (n : Int) := by omega
  have hl3 : (n : Int) < (s.length : Int) := by omega
  have ec1 : ((n + 1 : Nat) : Int) = (n : Int) + 1 := by omega
  have ec2 : ((n + 1 + 1 : Nat) : Int) = (n : Int) + 1 + 1 := by omega
  rw [List.drop_eq_getElem_cons hl]
  simp only [mBase, nx, List.drop_succ_cons, List.drop_zero, show ((94 : UInt8).toNat : Int) = 94 from rfl, show ((36 : UInt8).toNat : Int) = 36 from rfl, show ((46 : UInt8).toNat : Int) = 46 from rfl, show ((91 : UInt8).toNat : Int) = 91 from rfl, show ((40 : UInt8).toNat : Int) = 40 from rfl]
  generalize s[n] = b at hi c94 c36 c46 c91 c40 c92 hsp ⊢
  have q94 : eqI (b.toNat : Int) 94 = false := by simp [eqI, c94]
  simp only [decF c94]
  clear c94
  have q36 : eqI (b.toNat : Int) 36 = false := by simp [eqI, c36]
  simp only [decF c36]
  clear c36
  have q46 : eqI (b.toNat : Int) 46 = false := by simp [eqI, c46]
  simp only [decF c46]
  clear c46
  have q91 : eqI (b.toNat : Int) 91 = false := by simp [eqI, c91]
  simp only [decF c91]
  clear c91
  have q40 : eqI (b.toNat : Int) 40 = false := by simp [eqI, c40]
  simp only [decF c40]
  clear c40
  have q92 : eqI (b.toNat : Int) 92 = false := by simp [eqI, c92]
  simp only [mSingle, if_neg c92]
  clear c92
  have hd := l04Special_ok b
  rw [show (signs.any fun c => decide ((c.toNat : Int) = (b.toNat : Int))) = spec b from rfl, hsp] at hd
  simp only [hsp]
  clear hsp h
  simp only [if_true]
  refine ⟨0, hS s n true R0, ?_, .inl ⟨_, rfl⟩⟩
  clear hlen
  cases R0
  all_goals
    simp only [hS, hT]
    exact fn W91 Try.func91
theorem sthing_dc (k : Nat) (h : PIS 67 mAlt 1 6 k) (s : List UInt8) (n : Nat) (R0 : List (List D)) (hn : n ≤ s.length) (hk : 6 * (s.length - n) + 3 ≤ k + 1) (hlen : R0.length + 2 * (s.length - n) ≤ 58 + (1 - 0)) (hs : s.length ≤ 24) (hl : n < s.length) (c94 : ¬ (s[n].toNat : Int) = 94) (c36 : ¬ (s[n].toNat : Int) = 36) (c46 : ¬ (s[n].toNat : Int) = 46) (c91 : ¬ (s[n].toNat : Int) = 91) (c40 : ¬ (s[n].toNat : Int) = 40) (c92 : ¬ (s[n].toNat : Int) = 92) (hsp : spec s[n] = false) : AnsS s (R0.length + 2 * (s.length - n) + 2 * 0 + 1) R0 (fnL Try.prog T L0 91 [.c (.ptr 0 0 0)] (hS s n false R0)) (GoodS 0 s n R0) (mBase (k + 1) (s.drop n)) := by
  have hi := ixAt s n hl
  have hl2 : ¬ (s.length : Int) ≤ (n : Int) := by omega
  have hl3 : (n : Int) < (s.length : Int) := by omega
  have ec1 : ((n + 1 : Nat) : Int) = (n : Int) + 1 := by omega
  have ec2 : ((n + 1 + 1 : Nat) : Int) = (n : Int) + 1 + 1 := by omega
  rw [List.drop_eq_getElem_cons hl]
  simp only [mBase, nx, List.drop_succ_cons, List.drop_zero, show ((94 : UInt8).toNat : Int) = 94 from rfl, show ((36 : UInt8).toNat : Int) = 36 from rfl, show ((46 : UInt8).toNat : Int) = 46 from rfl, show ((91 : UInt8).toNat : Int) = 91 from rfl, show ((40 : UInt8).toNat : Int) = 40 from rfl]
  generalize s[n] = b at hi c94 c36 c46 c91 c40 c92 hsp ⊢
  have q94 : eqI (b.toNat : Int) 94 = false := by simp [eqI, c94]
  simp only [decF c94]
  clear c94
  have q36 : eqI (b.toNat : Int) 36 = false := by simp [eqI, c36]
  simp only [decF c36]
  clear c36
  have q46 : eqI (b.toNat : Int) 46 = false := by simp [eqI, c46]
  simp only [decF c46]
  clear c46
  have q91 : eqI (b.toNat : Int) 91 = false := by simp [eqI, c91]
  simp only [decF c91]
  clear c91
  have q40 : eqI (b.toNat : Int) 40 = false := by simp [eqI, c40]
  simp only [decF c40]
  clear c40
  have q92 : eqI (b.toNat : Int) 92 = false := by simp [eqI, c92]
  simp only [mSingle, if_neg c92]
  clear c92
  have hd := l04Special_ok b
  rw [show (signs.any fun c => decide ((c.toNat : Int) = (b.toNat : Int))) = spec b from rfl, hsp] at hd
  simp only [hsp]
  clear hsp h
  simp only [Bool.false_eq_true, if_false]
  have hp := sput_nil 1 [b] s (n + 1) false R0 (by omega)
  refine ⟨R0.length, n + 1, R0 ++ [[.v (.int .i64 (1)), .v (.string (B ([b]))), .v (.slice none 0 0)]], ?_, by omega, rfl, ⟨by simp, by simp; omega⟩, by omega⟩
  clear hlen
  cases R0
  all_goals
    simp only [hS, hT, ec1, ec2] at hp ⊢
    refine nfW true (fun _ => W91.2) W91.1 Try.func91 rfl rfl fun c ht hr => ?_; simp only [okW, List.length_cons, List.length_nil, Nat.reduceAdd, firstReg, and_true] at c; (try simp (maxSteps := 4000000) (disch := first | assumption | omega) only [go_sem, *, arr_all, Option.isSome_some, hi, hl2, hl3, hp, hd, convB, sliceRows, List.mapM_cons, List.mapM_nil, Option.pure_def, Option.bind_eq_bind, Option.bind_some, List.toList_toArray, List.length_append, ↓bin_eqI, ↓bin_neI, Nat.reduceAdd, Nat.reduceSub, Nat.reduceMul, Nat.reduceBEq, Nat.reduceLeDiff, Nat.reduceLT, Nat.reduceDiv, Nat.reduceMod]); repeat' ((first | with_reducible first | refine caK (fun hb => ?_) fun hb => ?_ | refine caG (fun hb => ?_) fun hb => ?_ | refine caP (fun hb => ?_) fun hb => ?_ | refine caH (fun hb => ?_) fun hb => ?_ | refine caQ (fun hb => ?_) fun hb => ?_ | refine ite_cases (fun hb => ?_) fun hb => ?_ | rw [drwK_ok rfl]) <;> try simp (maxSteps := 4000000) (disch := first | assumption | omega) only [go_sem, *, arr_all, Option.isSome_some, hi, hl2, hl3, hp, hd, convB, sliceRows, List.mapM_cons, List.mapM_nil, Option.pure_def, Option.bind_eq_bind, Option.bind_some, List.toList_toArray, List.length_append, ↓bin_eqI, ↓bin_neI, Nat.reduceAdd, Nat.reduceSub, Nat.reduceMul, Nat.reduceBEq, Nat.reduceLeDiff, Nat.reduceLT, Nat.reduceDiv, Nat.reduceMod])
theorem sthing_of (k : Nat) (h : PIS 67 mAlt 1 6 k) : PIS 91 mBase 0 3 (k + 1) := by
  intro s n R0 hn hk hlen hs
  by_cases hl : n < s.length
  · by_cases c94 : (s[n].toNat : Int) = 94
    · exact sthing_94 k h s n R0 hn hk hlen hs hl c94
    by_cases c36 : (s[n].toNat : Int) = 36
    · exact sthing_36 k h s n R0 hn hk hlen hs hl c94 c36
    by_cases c46 : (s[n].toNat : Int) = 46
    · exact sthing_46 k h s n R0 hn hk hlen hs hl c94 c36 c46
    by_cases c91 : (s[n].toNat : Int) = 91
    · cases hm : mSet (s.drop (n + 1)) with
      | none => exact sthing_91a k h s n R0 hn hk hlen hs hl c94 c36 c46 c91 hm
      | some rest => exact sthing_91b k h s n R0 hn hk hlen hs hl c94 c36 c46 c91 rest hm
    by_cases c40 : (s[n].toNat : Int) = 40
    · cases hm : mAlt k (s.drop (n + 1)) with
      | none => exact sthing_40a k h s n R0 hn hk hlen hs hl c94 c36 c46 c91 c40 hm
      | some rest =>
        cases hx : nx 41 rest with
        | true => exact sthing_40b k h s n R0 hn hk hlen hs hl c94 c36 c46 c91 c40 rest hm hx
        | false => exact sthing_40c k h s n R0 hn hk hlen hs hl c94 c36 c46 c91 c40 rest hm hx
    by_cases c92 : (s[n].toNat : Int) = 92
    · by_cases hm : n + 1 < s.length
      · cases hsp : spec s[n + 1] with
        | true => exact sthing_92b k h s n R0 hn hk hlen hs hl c94 c36 c46 c91 c40 c92 hm hsp
        | false => exact sthing_92c k h s n R0 hn hk hlen hs hl c94 c36 c46 c91 c40 c92 hm hsp
      · exact sthing_92a k h s n R0 hn hk hlen hs hl c94 c36 c46 c91 c40 c92 hm
    cases hsp : spec s[n] with
    | true => exact sthing_db k h s n R0 hn hk hlen hs hl c94 c36 c46 c91 c40 c92 hsp
    | false => exact sthing_dc k h s n R0 hn hk hlen hs hl c94 c36 c46 c91 c40 c92 hsp
  · have hl2 : (s.length : Int) ≤ (n : Int) := by omega
    rw [List.drop_eq_nil_of_le (by omega)]
    clear h
    simp only [mBase, nx, mSingle]
    refine ⟨0, hS s n true R0, ?_, .inl ⟨_, rfl⟩⟩
    clear hlen
    cases R0
    all_goals
      simp only [hS]
      exact fn W91 Try.func91
theorem sput_kids_bad (op : Int) (t : List UInt8) (ks : List Int) (hk : ks.length ≤ 4) (s : List UInt8) (i : Nat) (R : List (List D)) (n : Nat) (hn : R.length = n) (h1 : 1 ≤ n ∧ n ≤ 100) :
    fnL Try.prog T L0 80 [.c (.ptr 0 0 0), .agg [.d (.v (.int .i64 (op))), .d (.v (.string (B (t)))), .arr 2 0 ks.length]] [some (.var [.d (.v (.string (B (s)))), .d (.v (.int .i64 ((i : Int)))), .d (.v (.bool (true))), .arr 1 0 n]), some (.arr 3 R), some (.arr 1 (rI ks))] =
      some (.one (.c (.d (.v (.int .i64 ((n : Int)))))), [some (.var [.d (.v (.string (B (s)))), .d (.v (.int .i64 ((i : Int)))), .d (.v (.bool (true))), .arr 3 0 (n + 1)]), none, none, some (.arr 3 (R ++ [row op t ks]))]) := by
  have hroom : room = 70368744177664 := rfl
  have e : row op t ks = [.v (.int .i64 (op)), .v (.string (B (t))), .sl 1 (rI ks)] := rfl
  rw [e]
  have ht : R.take n = R := List.take_of_length_le (by omega)
  have hkt : (rI ks).take ks.length = rI ks := List.take_of_length_le (by simp [rI])
  have hs : ((n + 1 : Nat) : Int) - 1 = (n : Int) := by omega
  exact fn W80 Try.func80
theorem smany_loop0 (s : List UInt8) (hs : s.length ≤ 24) : ∀ (m n a : Nat) (R : List (List D)), n + m = s.length → 1 ≤ R.length → R.length + (s.length - n) ≤ 59 →
    ∃ (a' n' : Nat) (R' : List (List D)), n' ≤ s.length ∧ mReps (s.drop n) = s.drop n' ∧ R.length ≤ R'.length ∧ R'.length + (s.length - n') = R.length + (s.length - n) ∧
    loopC Try.prog T (fnL Try.prog T L0) 88 (cq Try.f88 [0, 0, 0, 1, 1]) ⟨[.one (.c (.ptr 0 0 0)), J, J, .one (.c (.d (.v (.int .i64 ((a : Int)))))), J, J, J, J, J, J, J, J, J, J, J, J, J, J, J, J, J, J, J, J, J, J, J, J, J, J, J, J, J, J, J, J, J, J, J, J, J, J, J, J, J, J, J, J, J, J, J, J], hpOf [some (.var [.d (.v (.string (B (s)))), .d (.v (.int .i64 ((n : Int)))), .d (.v (.bool (false))), .arr 1 0 R.length]), some (.arr 3 R)], 2, 1⟩ = some (.exit 0, ⟨[J, J, J, .one (.c (.d (.v (.int .i64 ((a' : Int)))))), J, J, J, J, J, J, J, J, J, J, J, J, J, J, J, J, J, J, J, J, J, J, J, J, J, J, J, J, J, J, J, J, J, J, J, J, J, J, J, J, J, J, J, J, J, J, J, J], hpOf [some (.var [.d (.v (.string (B (s)))), .d (.v (.int .i64 ((n' : Int)))), .d (.v (.bool (false))), .arr 1 0 R'.length]), some (.arr 3 R')], 2, 1⟩)
  | 0, n, a, R, hm, h1, hR => by
    have j1 := sis_ne 42 s n (by omega) hs R h1
    have j2 := sis_ne 43 s n (by omega) hs R h1
    have j3 := sis_ne 63 s n (by omega) hs R h1
    rw [List.drop_eq_nil_of_le (by omega)] at j1 j2 j3 ⊢
    simp only [nx, show ((42 : UInt8).toNat : Int) = 42 from rfl, show ((43 : UInt8).toNat : Int) = 43 from rfl, show ((63 : UInt8).toNat : Int) = 63 from rfl] at j1 j2 j3
    refine ⟨a, n, R, by omega, by rw [List.drop_eq_nil_of_le (by omega)]; rfl, by omega, by omega, ?_⟩
    clear hR
    exact lp W88
  | m + 1, n, a, R, hm, h1, hR => by
    have hl : n < s.length := by omega
    have hi := ixAt s n hl
    have j1 := sis_ne 42 s n (by omega) hs R h1
    have j2 := sis_ne 43 s n (by omega) hs R h1
    have j3 := sis_ne 63 s n (by omega) hs R h1
    have ec : ((n + 1 : Nat) : Int) = (n : Int) + 1 := by omega
    have hl2 : (n : Int) < (s.length : Int) := by omega
    have hdr := List.drop_eq_getElem_cons hl
    rw [hdr] at j1 j2 j3
    simp only [nx, show ((42 : UInt8).toNat : Int) = 42 from rfl, show ((43 : UInt8).toNat : Int) = 43 from rfl, show ((63 : UInt8).toNat : Int) = 63 from rfl] at j1 j2 j3
    generalize s[n] = b at hi hdr j1 j2 j3
    have ih := fun op => smany_loop0 s hs m (n + 1) R.length (R ++ [row op [] [(a : Int)]]) (by omega) (by simp) (by simp; omega)
    have hp := fun op => sput_kids op [] [(a : Int)] (by simp) s (n + 1) false R R.length rfl ⟨by omega, by omega⟩
    by_cases c42 : (b.toNat : Int) = 42
    · have hr : isRep b = true := by simp [isRep, c42]
      obtain ⟨a', n', R', q1, q2, q3, q4, q5⟩ := ih 7
      refine ⟨a', n', R', q1, by rw [hdr]; simp only [mReps, hr]; exact q2, by simp at q3; omega, by simp at q4; omega, ?_⟩
      replace hp := hp 7
      rw [c42] at hi j1 j2 j3
      simp only [decide_true, show decide ((42 : Int) = 43) = false from rfl, show decide ((42 : Int) = 63) = false from rfl, show decide ((43 : Int) = 63) = false from rfl, show decide ((43 : Int) = 42) = false from rfl, show decide ((63 : Int) = 42) = false from rfl, show decide ((63 : Int) = 43) = false from rfl] at j1 j2 j3
      simp only [rI, List.map_cons, List.map_nil, List.length_cons, List.length_nil, Nat.zero_add, Nat.reduceAdd, ec, List.length_append] at hp q5
      rw [← q5]
      clear q5 ih q1 q2 q3 q4 hr hdr c42  hR hm
      refine lpW true (fun _ => W88.2) W88.1 rfl fun c hl => ?_; simp only [subR, chi, okW, List.length_cons, List.length_nil, Nat.reduceAdd, firstReg, and_true] at c hl; (try simp (maxSteps := 4000000) (disch := first | assumption | omega) only [go_sem, *, arr_all, Option.isSome_some, hi, hl2, j1, j2, j3, hp, B_empty, List.length_append, ↓bin_eqI, ↓bin_neI, Nat.reduceAdd, Nat.reduceSub, Nat.reduceMul, Nat.reduceBEq, Nat.reduceLeDiff, Nat.reduceLT, Nat.reduceDiv, Nat.reduceMod]); repeat' ((first | with_reducible first | refine caK (fun hb => ?_) fun hb => ?_ | refine caG (fun hb => ?_) fun hb => ?_ | refine caP (fun hb => ?_) fun hb => ?_ | refine caH (fun hb => ?_) fun hb => ?_ | refine caQ (fun hb => ?_) fun hb => ?_ | refine ite_cases (fun hb => ?_) fun hb => ?_ | rw [drwK_ok rfl]) <;> try simp (maxSteps := 4000000) (disch := first | assumption | omega) only [go_sem, *, arr_all, Option.isSome_some, hi, hl2, j1, j2, j3, hp, B_empty, List.length_append, ↓bin_eqI, ↓bin_neI, Nat.reduceAdd, Nat.reduceSub, Nat.reduceMul, Nat.reduceBEq, Nat.reduceLeDiff, Nat.reduceLT, Nat.reduceDiv, Nat.reduceMod])
    by_cases c43 : (b.toNat : Int) = 43
    · have hr : isRep b = true := by simp [isRep, c43]
      obtain ⟨a', n', R', q1, q2, q3, q4, q5⟩ := ih 8
      refine ⟨a', n', R', q1, by rw [hdr]; simp only [mReps, hr]; exact q2, by simp at q3; omega, by simp at q4; omega, ?_⟩
      replace hp := hp 8
      rw [c43] at hi j1 j2 j3
      simp only [decide_true, show decide ((42 : Int) = 43) = false from rfl, show decide ((42 : Int) = 63) = false from rfl, show decide ((43 : Int) = 63) = false from rfl, show decide ((43 : Int) = 42) = false from rfl, show decide ((63 : Int) = 42) = false from rfl, show decide ((63 : Int) = 43) = false from rfl] at j1 j2 j3
      simp only [rI, List.map_cons, List.map_nil, List.length_cons, List.length_nil, Nat.zero_add, Nat.reduceAdd, ec, List.length_append] at hp q5
      rw [← q5]
      clear q5 ih q1 q2 q3 q4 hr hdr c43 c42 hR hm
      refine lpW true (fun _ => W88.2) W88.1 rfl fun c hl => ?_; simp only [subR, chi, okW, List.length_cons, List.length_nil, Nat.reduceAdd, firstReg, and_true] at c hl; (try simp (maxSteps := 4000000) (disch := first | assumption | omega) only [go_sem, *, arr_all, Option.isSome_some, hi, hl2, j1, j2, j3, hp, B_empty, List.length_append, ↓bin_eqI, ↓bin_neI, Nat.reduceAdd, Nat.reduceSub, Nat.reduceMul, Nat.reduceBEq, Nat.reduceLeDiff, Nat.reduceLT, Nat.reduceDiv, Nat.reduceMod]); repeat' ((first | with_reducible first | refine caK (fun hb => ?_) fun hb => ?_ | refine caG (fun hb => ?_) fun hb => ?_ | refine caP (fun hb => ?_) fun hb => ?_ | refine caH (fun hb => ?_) fun hb => ?_ | refine caQ (fun hb => ?_) fun hb => ?_ | refine ite_cases (fun hb => ?_) fun hb => ?_ | rw [drwK_ok rfl]) <;> try simp (maxSteps := 4000000) (disch := first | assumption | omega) only [go_sem, *, arr_all, Option.isSome_some, hi, hl2, j1, j2, j3, hp, B_empty, List.length_append, ↓bin_eqI, ↓bin_neI, Nat.reduceAdd, Nat.reduceSub, Nat.reduceMul, Nat.reduceBEq, Nat.reduceLeDiff, Nat.reduceLT, Nat.reduceDiv, Nat.reduceMod])
    by_cases c63 : (b.toNat : Int) = 63
    · have hr : isRep b = true := by simp [isRep, c63]
      obtain ⟨a', n', R', q1, q2, q3, q4, q5⟩ := ih 9
      refine ⟨a', n', R', q1, by rw [hdr]; simp only [mReps, hr]; exact q2, by simp at q3; omega, by simp at q4; omega, ?_⟩
      replace hp := hp 9
      rw [c63] at hi j1 j2 j3
      simp only [decide_true, show decide ((42 : Int) = 43) = false from rfl, show decide ((42 : Int) = 63) = false from rfl, show decide ((43 : Int) = 63) = false from rfl, show decide ((43 : Int) = 42) = false from rfl, show decide ((63 : Int) = 42) = false from rfl, show decide ((63 : Int) = 43) = false from rfl] at j1 j2 j3
      simp only [rI, List.map_cons, List.map_nil, List.length_cons, List.length_nil, Nat.zero_add, Nat.reduceAdd, ec, List.length_append] at hp q5
      rw [← q5]
      clear q5 ih q1 q2 q3 q4 hr hdr c63 c42 c43 hR hm
      refine lpW true (fun _ => W88.2) W88.1 rfl fun c hl => ?_; simp only [subR, chi, okW, List.length_cons, List.length_nil, Nat.reduceAdd, firstReg, and_true] at c hl; (try simp (maxSteps := 4000000) (disch := first | assumption | omega) only [go_sem, *, arr_all, Option.isSome_some, hi, hl2, j1, j2, j3, hp, B_empty, List.length_append, ↓bin_eqI, ↓bin_neI, Nat.reduceAdd, Nat.reduceSub, Nat.reduceMul, Nat.reduceBEq, Nat.reduceLeDiff, Nat.reduceLT, Nat.reduceDiv, Nat.reduceMod]); repeat' ((first | with_reducible first | refine caK (fun hb => ?_) fun hb => ?_ | refine caG (fun hb => ?_) fun hb => ?_ | refine caP (fun hb => ?_) fun hb => ?_ | refine caH (fun hb => ?_) fun hb => ?_ | refine caQ (fun hb => ?_) fun hb => ?_ | refine ite_cases (fun hb => ?_) fun hb => ?_ | rw [drwK_ok rfl]) <;> try simp (maxSteps := 4000000) (disch := first | assumption | omega) only [go_sem, *, arr_all, Option.isSome_some, hi, hl2, j1, j2, j3, hp, B_empty, List.length_append, ↓bin_eqI, ↓bin_neI, Nat.reduceAdd, Nat.reduceSub, Nat.reduceMul, Nat.reduceBEq, Nat.reduceLeDiff, Nat.reduceLT, Nat.reduceDiv, Nat.reduceMod])
    have hr : isRep b = false := by simp [isRep, c42, c43, c63]
    simp only [decF c42, decF c43, decF c63] at j1 j2 j3
    refine ⟨a, n, R, by omega, by rw [hdr]; simp only [mReps, hr], by omega, by omega, ?_⟩
    clear ih hp hr hdr c42 c43 c63 hR hm
    exact lp W88
theorem smany_loop1 (s : List UInt8) (hs : s.length ≤ 24) : ∀ (m n a : Nat) (R : List (List D)), n + m = s.length → 1 ≤ R.length → R.length + (s.length - n) ≤ 59 →
    ∃ (a' n' : Nat) (R' : List (List D)), n' ≤ s.length ∧ mReps (s.drop n) = s.drop n' ∧ R.length ≤ R'.length ∧ R'.length + (s.length - n') = R.length + (s.length - n) ∧
    loopC Try.prog T (fnL Try.prog T L0) 88 (cq Try.f88 [0, 0, 0, 1, 1]) ⟨[.one (.c (.ptr 0 0 0)), J, J, .one (.c (.d (.v (.int .i64 ((a : Int)))))), J, J, J, J, J, J, J, J, J, J, J, J, J, J, J, J, J, J, J, J, J, J, J, J, J, J, J, J, J, J, J, J, J, J, J, J, J, J, J, J, J, J, J, J, J, J, J, J], hpOf [some (.var [.d (.v (.string (B (s)))), .d (.v (.int .i64 ((n : Int)))), .d (.v (.bool (false))), .arr 2 0 R.length]), none, some (.arr 3 R)], 3, 2⟩ = some (.exit 0, ⟨[J, J, J, .one (.c (.d (.v (.int .i64 ((a' : Int)))))), J, J, J, J, J, J, J, J, J, J, J, J, J, J, J, J, J, J, J, J, J, J, J, J, J, J, J, J, J, J, J, J, J, J, J, J, J, J, J, J, J, J, J, J, J, J, J, J], hpOf [some (.var [.d (.v (.string (B (s)))), .d (.v (.int .i64 ((n' : Int)))), .d (.v (.bool (false))), .arr 2 0 R'.length]), none, some (.arr 3 R')], 3, 2⟩)
  | 0, n, a, R, hm, h1, hR => by
    have j1 := sis_ne 42 s n (by omega) hs R h1
    have j2 := sis_ne 43 s n (by omega) hs R h1
    have j3 := sis_ne 63 s n (by omega) hs R h1
    rw [List.drop_eq_nil_of_le (by omega)] at j1 j2 j3 ⊢
    simp only [nx, show ((42 : UInt8).toNat : Int) = 42 from rfl, show ((43 : UInt8).toNat : Int) = 43 from rfl, show ((63 : UInt8).toNat : Int) = 63 from rfl] at j1 j2 j3
    refine ⟨a, n, R, by omega, by rw [List.drop_eq_nil_of_le (by omega)]; rfl, by omega, by omega, ?_⟩
    clear hR
    exact lp W88
  | m + 1, n, a, R, hm, h1, hR => by
    have hl : n < s.length := by omega
    have hi := ixAt s n hl
    have j1 := sis_ne 42 s n (by omega) hs R h1
    have j2 := sis_ne 43 s n (by omega) hs R h1
    have j3 := sis_ne 63 s n (by omega) hs R h1
    have ec : ((n + 1 : Nat) : Int) = (n : Int) + 1 := by omega
    have hl2 : (n : Int) < (s.length : Int) := by omega
    have hdr := List.drop_eq_getElem_cons hl
    rw [hdr] at j1 j2 j3
    simp only [nx, show ((42 : UInt8).toNat : Int) = 42 from rfl, show ((43 : UInt8).toNat : Int) = 43 from rfl, show ((63 : UInt8).toNat : Int) = 63 from rfl] at j1 j2 j3
    generalize s[n] = b at hi hdr j1 j2 j3
    have ih := fun op => smany_loop1 s hs m (n + 1) R.length (R ++ [row op [] [(a : Int)]]) (by omega) (by simp) (by simp; omega)
    have hp := fun op => sput_kids op [] [(a : Int)] (by simp) s (n + 1) false R R.length rfl ⟨by omega, by omega⟩
    by_cases c42 : (b.toNat : Int) = 42
    · have hr : isRep b = true := by simp [isRep, c42]
      obtain ⟨a', n', R', q1, q2, q3, q4, q5⟩ := ih 7
      refine ⟨a', n', R', q1, by rw [hdr]; simp only [mReps, hr]; exact q2, by simp at q3; omega, by simp at q4; omega, ?_⟩
      replace hp := hp 7
      rw [c42] at hi j1 j2 j3
      simp only [decide_true, show decide ((42 : Int) = 43) = false from rfl, show decide ((42 : Int) = 63) = false from rfl, show decide ((43 : Int) = 63) = false from rfl, show decide ((43 : Int) = 42) = false from rfl, show decide ((63 : Int) = 42) = false from rfl, show decide ((63 : Int) = 43) = false from rfl] at j1 j2 j3
      simp only [rI, List.map_cons, List.map_nil, List.length_cons, List.length_nil, Nat.zero_add, Nat.reduceAdd, ec, List.length_append] at hp q5
      rw [← q5]
      clear q5 ih q1 q2 q3 q4 hr hdr c42  hR hm
      refine lpW true (fun _ => W88.2) W88.1 rfl fun c hl => ?_; simp only [subR, chi, okW, List.length_cons, List.length_nil, Nat.reduceAdd, firstReg, and_true] at c hl; (try simp (maxSteps := 4000000) (disch := first | assumption | omega) only [go_sem, *, arr_all, Option.isSome_some, hi, hl2, j1, j2, j3, hp, B_empty, List.length_append, ↓bin_eqI, ↓bin_neI, Nat.reduceAdd, Nat.reduceSub, Nat.reduceMul, Nat.reduceBEq, Nat.reduceLeDiff, Nat.reduceLT, Nat.reduceDiv, Nat.reduceMod]); repeat' ((first | with_reducible first | refine caK (fun hb => ?_) fun hb => ?_ | refine caG (fun hb => ?_) fun hb => ?_ | refine caP (fun hb => ?_) fun hb => ?_ | refine caH (fun hb => ?_) fun hb => ?_ | refine caQ (fun hb => ?_) fun hb => ?_ | refine ite_cases (fun hb => ?_) fun hb => ?_ | rw [drwK_ok rfl]) <;> try simp (maxSteps := 4000000) (disch := first | assumption | omega) only [go_sem, *, arr_all, Option.isSome_some, hi, hl2, j1, j2, j3, hp, B_empty, List.length_append, ↓bin_eqI, ↓bin_neI, Nat.reduceAdd, Nat.reduceSub, Nat.reduceMul, Nat.reduceBEq, Nat.reduceLeDiff, Nat.reduceLT, Nat.reduceDiv, Nat.reduceMod])
    by_cases c43 : (b.toNat : Int) = 43
    · have hr : isRep b = true := by simp [isRep, c43]
      obtain ⟨a', n', R', q1, q2, q3, q4, q5⟩ := ih 8
      refine ⟨a', n', R', q1, by rw [hdr]; simp only [mReps, hr]; exact q2, by simp at q3; omega, by simp at q4; omega, ?_⟩
      replace hp := hp 8
      rw [c43] at hi j1 j2 j3
      simp only [decide_true, show decide ((42 : Int) = 43) = false from rfl, show decide ((42 : Int) = 63) = false from rfl, show decide ((43 : Int) = 63) = false from rfl, show decide ((43 : Int) = 42) = false from rfl, show decide ((63 : Int) = 42) = false from rfl, show decide ((63 : Int) = 43) = false from rfl] at j1 j2 j3
      simp only [rI, List.map_cons, List.map_nil, List.length_cons, List.length_nil, Nat.zero_add, Nat.reduceAdd, ec, List.length_append] at hp q5
      rw [← q5]
      clear q5 ih q1 q2 q3 q4 hr hdr c43 c42 hR hm
      refine lpW true (fun _ => W88.2) W88.1 rfl fun c hl => ?_; simp only [subR, chi, okW, List.length_cons, List.length_nil, Nat.reduceAdd, firstReg, and_true] at c hl; (try simp (maxSteps := 4000000) (disch := first | assumption | omega) only [go_sem, *, arr_all, Option.isSome_some, hi, hl2, j1, j2, j3, hp, B_empty, List.length_append, ↓bin_eqI, ↓bin_neI, Nat.reduceAdd, Nat.reduceSub, Nat.reduceMul, Nat.reduceBEq, Nat.reduceLeDiff, Nat.reduceLT, Nat.reduceDiv, Nat.reduceMod]); repeat' ((first | with_reducible first | refine caK (fun hb => ?_) fun hb => ?_ | refine caG (fun hb => ?_) fun hb => ?_ | refine caP (fun hb => ?_) fun hb => ?_ | refine caH (fun hb => ?_) fun hb => ?_ | refine caQ (fun hb => ?_) fun hb => ?_ | refine ite_cases (fun hb => ?_) fun hb => ?_ | rw [drwK_ok rfl]) <;> try simp (maxSteps := 4000000) (disch := first | assumption | omega) only [go_sem, *, arr_all, Option.isSome_some, hi, hl2, j1, j2, j3, hp, B_empty, List.length_append, ↓bin_eqI, ↓bin_neI, Nat.reduceAdd, Nat.reduceSub, Nat.reduceMul, Nat.reduceBEq, Nat.reduceLeDiff, Nat.reduceLT, Nat.reduceDiv, Nat.reduceMod])
    by_cases c63 : (b.toNat : Int) = 63
    · have hr : isRep b = true := by simp [isRep, c63]
      obtain ⟨a', n', R', q1, q2, q3, q4, q5⟩ := ih 9
      refine ⟨a', n', R', q1, by rw [hdr]; simp only [mReps, hr]; exact q2, by simp at q3; omega, by simp at q4; omega, ?_⟩
      replace hp := hp 9
      rw [c63] at hi j1 j2 j3
      simp only [decide_true, show decide ((42 : Int) = 43) = false from rfl, show decide ((42 : Int) = 63) = false from rfl, show decide ((43 : Int) = 63) = false from rfl, show decide ((43 : Int) = 42) = false from rfl, show decide ((63 : Int) = 42) = false from rfl, show decide ((63 : Int) = 43) = false from rfl] at j1 j2 j3
      simp only [rI, List.map_cons, List.map_nil, List.length_cons, List.length_nil, Nat.zero_add, Nat.reduceAdd, ec, List.length_append] at hp q5
      rw [← q5]
      clear q5 ih q1 q2 q3 q4 hr hdr c63 c42 c43 hR hm
      refine lpW true (fun _ => W88.2) W88.1 rfl fun c hl => ?_; simp only [subR, chi, okW, List.length_cons, List.length_nil, Nat.reduceAdd, firstReg, and_true] at c hl; (try simp (maxSteps := 4000000) (disch := first | assumption | omega) only [go_sem, *, arr_all, Option.isSome_some, hi, hl2, j1, j2, j3, hp, B_empty, List.length_append, ↓bin_eqI, ↓bin_neI, Nat.reduceAdd, Nat.reduceSub, Nat.reduceMul, Nat.reduceBEq, Nat.reduceLeDiff, Nat.reduceLT, Nat.reduceDiv, Nat.reduceMod]); repeat' ((first | with_reducible first | refine caK (fun hb => ?_) fun hb => ?_ | refine caG (fun hb => ?_) fun hb => ?_ | refine caP (fun hb => ?_) fun hb => ?_ | refine caH (fun hb => ?_) fun hb => ?_ | refine caQ (fun hb => ?_) fun hb => ?_ | refine ite_cases (fun hb => ?_) fun hb => ?_ | rw [drwK_ok rfl]) <;> try simp (maxSteps := 4000000) (disch := first | assumption | omega) only [go_sem, *, arr_all, Option.isSome_some, hi, hl2, j1, j2, j3, hp, B_empty, List.length_append, ↓bin_eqI, ↓bin_neI, Nat.reduceAdd, Nat.reduceSub, Nat.reduceMul, Nat.reduceBEq, Nat.reduceLeDiff, Nat.reduceLT, Nat.reduceDiv, Nat.reduceMod])
    have hr : isRep b = false := by simp [isRep, c42, c43, c63]
    simp only [decF c42, decF c43, decF c63] at j1 j2 j3
    refine ⟨a, n, R, by omega, by rw [hdr]; simp only [mReps, hr], by omega, by omega, ?_⟩
    clear ih hp hr hdr c42 c43 c63 hR hm
    exact lp W88
theorem smany_of (k : Nat) (h : PIS 91 mBase 0 3 k) : PIS 88 mThing 0 4 (k + 1) := by
  intro s n R0 hn hk hlen hs
  have hb := h s n R0 hn (by omega) hlen hs
  simp only [mThing]
  cases hm : mBase k (s.drop n) with
  | none =>
    rw [hm] at hb
    obtain ⟨w, bs, e, hbs⟩ := hb
    refine ⟨w, bs, ?_, hbs⟩
    clear hm h hlen hk
    rcases hbs with ⟨n', rfl⟩ | ⟨n', R, h1, h2, rfl⟩
    · have hj := fun c => sis_bad c s n' R0
      cases R0
      all_goals
        simp only [hS] at e hj ⊢
        refine nfW true (fun _ => W88.2) W88.1 Try.func88 rfl rfl fun c ht hr => ?_; simp only [okW, List.length_cons, List.length_nil, Nat.reduceAdd, firstReg, and_true] at c; (try simp (maxSteps := 4000000) (disch := first | assumption | omega) only [go_sem, *, arr_all, Option.isSome_some, e, hj, loopC_round, ↓bin_eqI, ↓bin_neI, Nat.reduceAdd, Nat.reduceSub, Nat.reduceMul, Nat.reduceBEq, Nat.reduceLeDiff, Nat.reduceLT, Nat.reduceDiv, Nat.reduceMod]); repeat' ((first | with_reducible first | refine caK (fun hb => ?_) fun hb => ?_ | refine caG (fun hb => ?_) fun hb => ?_ | refine caP (fun hb => ?_) fun hb => ?_ | refine caH (fun hb => ?_) fun hb => ?_ | refine caQ (fun hb => ?_) fun hb => ?_ | refine ite_cases (fun hb => ?_) fun hb => ?_ | rw [drwK_ok rfl]) <;> try simp (maxSteps := 4000000) (disch := first | assumption | omega) only [go_sem, *, arr_all, Option.isSome_some, e, hj, loopC_round, ↓bin_eqI, ↓bin_neI, Nat.reduceAdd, Nat.reduceSub, Nat.reduceMul, Nat.reduceBEq, Nat.reduceLeDiff, Nat.reduceLT, Nat.reduceDiv, Nat.reduceMod])
    · have hj := fun c => sis_nbad c s n' R h1
      cases R0
      all_goals
        simp only [hS, hT] at e hj ⊢
        refine nfW true (fun _ => W88.2) W88.1 Try.func88 rfl rfl fun c ht hr => ?_; simp only [okW, List.length_cons, List.length_nil, Nat.reduceAdd, firstReg, and_true] at c; (try simp (maxSteps := 4000000) (disch := first | assumption | omega) only [go_sem, *, arr_all, Option.isSome_some, e, hj, loopC_round, ↓bin_eqI, ↓bin_neI, Nat.reduceAdd, Nat.reduceSub, Nat.reduceMul, Nat.reduceBEq, Nat.reduceLeDiff, Nat.reduceLT, Nat.reduceDiv, Nat.reduceMod]); repeat' ((first | with_reducible first | refine caK (fun hb => ?_) fun hb => ?_ | refine caG (fun hb => ?_) fun hb => ?_ | refine caP (fun hb => ?_) fun hb => ?_ | refine caH (fun hb => ?_) fun hb => ?_ | refine caQ (fun hb => ?_) fun hb => ?_ | refine ite_cases (fun hb => ?_) fun hb => ?_ | rw [drwK_ok rfl]) <;> try simp (maxSteps := 4000000) (disch := first | assumption | omega) only [go_sem, *, arr_all, Option.isSome_some, e, hj, loopC_round, ↓bin_eqI, ↓bin_neI, Nat.reduceAdd, Nat.reduceSub, Nat.reduceMul, Nat.reduceBEq, Nat.reduceLeDiff, Nat.reduceLT, Nat.reduceDiv, Nat.reduceMod])
  | some r =>
    rw [hm] at hb
    obtain ⟨a, n', R, e, g1, g2, ⟨g3, g4⟩, g5⟩ := hb
    subst g2
    clear hm h
    simp only
    cases R0 with
    | nil =>
      obtain ⟨a', n2, R', q1, q2, q3, q4, q5⟩ := smany_loop0 s hs (s.length - n') n' a R (by omega) (by omega) (by simp at g4 hlen; omega)
      refine ⟨a', n2, R', ?_, q1, q2, ⟨by omega, by simp at g4 ⊢; omega⟩, by omega⟩
      clear q1 q2 q3 q4 g1 g3 g4 g5 hlen hk
      simp only [hS, hT] at e ⊢
      exact fn W88 Try.func88
    | cons p ps =>
      obtain ⟨a', n2, R', q1, q2, q3, q4, q5⟩ := smany_loop1 s hs (s.length - n') n' a R (by omega) (by omega) (by simp at g4 hlen; omega)
      refine ⟨a', n2, R', ?_, q1, q2, ⟨by omega, by simp at g4 ⊢; omega⟩, by omega⟩
      clear q1 q2 q3 q4 g1 g3 g4 g5 hlen hk
      simp only [hS, hT] at e ⊢
      exact fn W88 Try.func88
end
end Go.Vsi
