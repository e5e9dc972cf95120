/- What the functions of the program, of the reference and of the law do (a part of it). -/
import Derived.Test.YtgphmleklcicaaaP6
namespace Go.Vsi
open Go.Proofs
noncomputable section
set_option maxRecDepth 100000
set_option maxHeartbeats 4000000
set_option linter.unusedSimpArgs false
set_option linter.unusedVariables false
attribute [local go_sem ↓] IX9
/-- A set behind its bracket. -/
def mSet (l : List UInt8) : Option (List UInt8) :=
  match mCut (adv (nx 94 l) l) with
  | none => none
  | some (x, y) => match x with | [] => none | _ :: _ => some y
theorem set_ok (M : Nat) (l : List UInt8) (R0 : List (List D)) (hR : R0.length ≤ 100) (hl : l.length ≤ 30) :
    Ans M R0 (fnL Try.prog T L0 92 [.c (.ptr 0 0 0)] (hP l false R0)) (fun rest a R => a = R0.length ∧ ∃ op t, (op = 3 ∨ op = 4) ∧ 1 ≤ t.length ∧ t.length + rest.length + 1 ≤ l.length ∧ R = R0 ++ [row op t []]) (mSet l) := by
  have e94 : ((94 : UInt8).toNat : Int) = 94 := rfl
  have ht := take_ok 94 l false R0
  rw [e94] at ht
  unfold mSet
  have hal : (adv (nx 94 l) l).length ≤ l.length := by unfold adv; split <;> simp
  obtain ⟨op, hop, hop2⟩ : ∃ op : Int, (op = 3 ∨ op = 4) ∧ op = (if nx 94 l = true then 4 else 3) := ⟨_, by split <;> simp, rfl⟩
  generalize nx 94 l = nb at ht hal hop2 ⊢
  generalize adv nb l = l1 at ht hal ⊢
  have hc := sCut_ok l1 (by omega)
  cases hm : mCut l1 with
  | none =>
    rw [hm] at hc
    simp only at hc
    refine ⟨0, hP l1 true R0, ?_, .inl ⟨_, rfl⟩⟩
    clear hm hop hop2
    cases nb <;> cases R0
    all_goals
      simp only [hP] at ht ⊢
      exact fn W92 Try.func92
  | some z =>
    obtain ⟨x, y⟩ := z
    rw [hm] at hc
    simp only at hc
    obtain ⟨h1, _⟩ := mCut_some l1 x y hm
    cases x with
    | nil =>
      refine ⟨0, hP l1 true R0, ?_, .inl ⟨_, rfl⟩⟩
      clear hm hop hop2 h1
      cases nb <;> cases R0
      all_goals
        simp only [hP] at ht ⊢
        exact fn W92 Try.func92
    | cons b x =>
      have hlen : (b :: x).length + y.length + 1 = l1.length := by rw [h1]; simp; omega
      have hp := put_nil op (b :: x) y false R0 hR
      have e2 : ((b :: x) = []) = False := by simp
      refine ⟨R0.length, R0 ++ [row op (b :: x) []], ?_, rfl, op, b :: x, hop, by simp, by omega, rfl⟩
      clear hm hop h1 hlen
      cases nb <;> cases R0
      all_goals
        simp only [Bool.false_eq_true, if_false, if_true] at hop2
        subst hop2
        simp only [hP, hQ] at ht hp ⊢
        refine nfW true (fun _ => W92.2) W92.1 Try.func92 rfl rfl fun c ht hr => ?_; simp only [okW, List.length_cons, List.length_nil, Nat.reduceAdd, firstReg, and_true] at c; (try simp (maxSteps := 4000000) (disch := first | assumption | omega) only [go_sem, *, ht, hc, hp, e2, List.length_append, ↓bin_eqI, ↓bin_neI, Nat.reduceAdd, Nat.reduceSub, Nat.reduceMul, Nat.reduceBEq, Nat.reduceLeDiff, Nat.reduceLT, Nat.reduceDiv, Nat.reduceMod]); repeat' ((first | with_reducible first | refine caK (fun hb => ?_) fun hb => ?_ | refine caG (fun hb => ?_) fun hb => ?_ | refine caP (fun hb => ?_) fun hb => ?_ | refine caH (fun hb => ?_) fun hb => ?_ | refine caQ (fun hb => ?_) fun hb => ?_ | refine ite_cases (fun hb => ?_) fun hb => ?_ | rw [drwK_ok rfl]) <;> try simp (maxSteps := 4000000) (disch := first | assumption | omega) only [go_sem, *, ht, hc, hp, e2, List.length_append, ↓bin_eqI, ↓bin_neI, Nat.reduceAdd, Nat.reduceSub, Nat.reduceMul, Nat.reduceBEq, Nat.reduceLeDiff, Nat.reduceLT, Nat.reduceDiv, Nat.reduceMod])
def stop (l : List UInt8) : Bool := l.isEmpty || nx 124 l || nx 41 l
def isRep (b : UInt8) : Bool := decide ((b.toNat : Int) = 42) || decide ((b.toNat : Int) = 43) || decide ((b.toNat : Int) = 63)
def mReps : List UInt8 → List UInt8
  | [] => []
  | b :: l => match isRep b with | true => mReps l | false => b :: l
mutual
def mAlt : Nat → List UInt8 → Option (List UInt8)
  | 0, _ => none
  | k + 1, l => match mRow k l with | none => none | some r => mAltL k r
def mAltL : Nat → List UInt8 → Option (List UInt8)
  | 0, _ => none
  | k + 1, l => match nx 124 l with
    | true => (match mRow k (l.drop 1) with | none => none | some r => mAltL k r)
    | false => some l
def mRow : Nat → List UInt8 → Option (List UInt8)
  | 0, _ => none
  | k + 1, l => match stop l with
    | true => some l
    | false => (match mThing k l with | none => none | some r => mRowL k r)
def mRowL : Nat → List UInt8 → Option (List UInt8)
  | 0, _ => none
  | k + 1, l => match stop l with
    | true => some l
    | false => (match mThing k l with | none => none | some r => mRowL k r)
def mThing : Nat → List UInt8 → Option (List UInt8)
  | 0, _ => none
  | k + 1, l => match mBase k l with | none => none | some r => some (mReps r)
def mBase : Nat → List UInt8 → Option (List UInt8)
  | 0, _ => none
  | k + 1, l => match nx 94 l with
    | true => some (l.drop 1)
    | false => match nx 36 l with
      | true => some (l.drop 1)
      | false => match nx 46 l with
        | true => some (l.drop 1)
        | false => match nx 91 l with
          | true => mSet (l.drop 1)
          | false => match nx 40 l with
            | true => (match mAlt k (l.drop 1) with
              | none => none
              | some r => match nx 41 r with | true => some (r.drop 1) | false => none)
            | false => mSingle l
end
def kidsNum (op : Int) : Nat := if op = 5 ∨ op = 6 then 2 else if op = 7 ∨ op = 8 ∨ op = 9 then 1 else 0
def textFit (op : Int) (t : List UInt8) : Bool := if op = 1 then decide (t.length = 1) else if op = 3 ∨ op = 4 then decide (1 ≤ t.length ∧ t.length ≤ 24) else decide (t = [])
def pOK (op : Int) (t : List UInt8) (ks : List Int) (i : Int) : Bool := decide (1 ≤ op ∧ op ≤ 12) && textFit op t && decide (ks.length = kidsNum op) && ks.all (fun k => decide (0 ≤ k ∧ k ≤ i - 1))
def RowsOK (R : List (List D)) : Prop := ∀ (i : Nat) (r : List D), R[i]? = some r → ∃ op t ks, r = row op t ks ∧ pOK op t ks i = true
theorem rowsOK_snoc {R : List (List D)} (h : RowsOK R) {op : Int} {t : List UInt8} {ks : List Int} (hp : pOK op t ks R.length = true) : RowsOK (R ++ [row op t ks]) := fun i r hr => by
  by_cases hi : i < R.length
  · rw [List.getElem?_append_left hi] at hr
    exact h i r hr
  · rw [List.getElem?_append_right (by omega)] at hr
    cases hd : i - R.length with
    | zero =>
      rw [hd] at hr
      simp at hr
      subst hr
      have : i = R.length := by omega
      subst this
      exact ⟨op, t, ks, rfl, hp⟩
    | succ n => rw [hd] at hr; simp at hr
theorem take_ne (c : UInt8) (l : List UInt8) (bad : Bool) (R : List (List D)) (hR : 1 ≤ R.length) : fnL Try.prog T L0 71 [.c (.ptr 0 0 0), .c (.d (.v (.int .u8 ((c.toNat : Int)))))] [some (.var [.d (.v (.string (B (l)))), .arr 1 0 R.length, .d (.v (.bool (bad)))]), some (.arr 3 R)] = some (.one (.c (.d (.v (.bool (nx c l))))), [some (.var [.d (.v (.string (B (adv (nx c l) l)))), .arr 1 0 R.length, .d (.v (.bool (bad)))]), some (.arr 3 R)]) := by
  cases R with
  | nil => simp at hR
  | cons p ps => exact take_ok c l bad (p :: ps)
theorem is_ne (c : UInt8) (l : List UInt8) (bad : Bool) (R : List (List D)) (hR : 1 ≤ R.length) : fnL Try.prog T L0 82 [.c (.ptr 0 0 0), .c (.d (.v (.int .u8 ((c.toNat : Int)))))] [some (.var [.d (.v (.string (B (l)))), .arr 1 0 R.length, .d (.v (.bool (bad)))]), some (.arr 3 R)] = some (.one (.c (.d (.v (.bool (nx c l))))), [some (.var [.d (.v (.string (B (l)))), .arr 1 0 R.length, .d (.v (.bool (bad)))]), some (.arr 3 R)]) := by
  cases R with
  | nil => simp at hR
  | cons p ps => exact is_ok c l bad (p :: ps)
theorem thing_loop0 : ∀ (l : List UInt8) (a : Nat) (R : List (List D)), RowsOK R → a < R.length → R.length + l.length ≤ 100 →
    ∃ (a' : Nat) (R' : List (List D)), RowsOK R' ∧ a' < R'.length ∧ R'.length + (mReps l).length = R.length + l.length ∧
    loopC Try.prog T (fnL Try.prog T L0) 83 (cq Try.f83 [0, 0, 0, 1, 1]) ⟨[.one (.c (.ptr 0 0 0)), J, J, .one (.c (.d (.v (.int .i64 ((a : Int)))))), J, J, J, J, J, J, J, J, J, J, J, J, J, J, J, J, J, J, J, J, J, J, J, J, J, J, J, J, J, J], hpOf [some (.var [.d (.v (.string (B (l)))), .arr 1 0 R.length, .d (.v (.bool (false)))]), some (.arr 3 R)], 2, 1⟩ =
      some (.ret, ⟨[J, J, .one (.c (.d (.v (.int .i64 ((a' : Int)))))), .one (.c (.d (.v (.int .i64 ((a' : Int)))))), J, J, J, J, J, J, J, J, J, J, J, J, J, J, J, J, J, J, J, J, J, J, J, J, J, J, J, J, J, J], hpOf [some (.var [.d (.v (.string (B (mReps l)))), .arr 1 0 R'.length, .d (.v (.bool (false)))]), some (.arr 3 R')], 2, 1⟩)
  | [], a, R, hR, ha, hl => by
    refine ⟨a, R, hR, ha, rfl, ?_⟩
    have h1 := take_ne 42 [] false R (by omega)
    have h2 := take_ne 43 [] false R (by omega)
    have h3 := take_ne 63 [] false R (by omega)
    simp only [nx, adv, show ((42 : UInt8).toNat : Int) = 42 from rfl, show ((43 : UInt8).toNat : Int) = 43 from rfl, show ((63 : UInt8).toNat : Int) = 63 from rfl] at h1 h2 h3
    simp only [mReps]
    clear hR
    exact lp W83
  | b :: l, a, R, hR, ha, hl => by
    have h1 := take_ne 42 (b :: l) false R (by omega)
    have h2 := take_ne 43 (b :: l) false R (by omega)
    have h3 := take_ne 63 (b :: l) false R (by omega)
    simp only [nx, show ((42 : UInt8).toNat : Int) = 42 from rfl, show ((43 : UInt8).toNat : Int) = 43 from rfl, show ((63 : UInt8).toNat : Int) = 63 from rfl] at h1 h2 h3
    have hll : l.length + 1 = (b :: l).length := rfl
    by_cases c1 : (b.toNat : Int) = 42
    · have hr : isRep b = true := by simp [isRep, c1]
      obtain ⟨a', R', q1, q2, q3, q4⟩ := thing_loop0 l R.length (R ++ [row 7 [] [(a : Int)]]) (rowsOK_snoc hR (by simp [pOK, textFit, kidsNum]; omega)) (by simp) (by simp; omega)
      refine ⟨a', R', q1, q2, by simp only [mReps, hr]; simp at q3 ⊢; omega, ?_⟩
      have hp := put_kids 7 [] [(a : Int)] (by simp) l false R R.length rfl ⟨by omega, by omega⟩
      rw [decide_eq_true c1] at h1
      simp only [adv, List.drop_succ_cons, List.drop_zero, rI, List.map_cons, List.map_nil, List.length_cons, List.length_nil, Nat.zero_add, Nat.reduceAdd, List.length_append] at h1 hp q4
      simp only [mReps, hr]
      rw [← q4]
      clear q4 hR h2 h3 c1  hr q1 q2 q3
      refine lpW true (fun _ => W83.2) W83.1 rfl fun c hl => ?_; simp only [subR, chi, okW, List.length_cons, List.length_nil, Nat.reduceAdd, firstReg, and_true] at c hl; (try simp (maxSteps := 4000000) (disch := first | assumption | omega) only [go_sem, *, h1, hp, List.length_append, ↓bin_eqI, ↓bin_neI, Nat.reduceAdd, Nat.reduceSub, Nat.reduceMul, Nat.reduceBEq, Nat.reduceLeDiff, Nat.reduceLT, Nat.reduceDiv, Nat.reduceMod]); repeat' ((first | with_reducible first | refine caK (fun hb => ?_) fun hb => ?_ | refine caG (fun hb => ?_) fun hb => ?_ | refine caP (fun hb => ?_) fun hb => ?_ | refine caH (fun hb => ?_) fun hb => ?_ | refine caQ (fun hb => ?_) fun hb => ?_ | refine ite_cases (fun hb => ?_) fun hb => ?_ | rw [drwK_ok rfl]) <;> try simp (maxSteps := 4000000) (disch := first | assumption | omega) only [go_sem, *, h1, hp, List.length_append, ↓bin_eqI, ↓bin_neI, Nat.reduceAdd, Nat.reduceSub, Nat.reduceMul, Nat.reduceBEq, Nat.reduceLeDiff, Nat.reduceLT, Nat.reduceDiv, Nat.reduceMod])
    · skip
      by_cases c2 : (b.toNat : Int) = 43
      · have hr : isRep b = true := by simp [isRep, c2]
        obtain ⟨a', R', q1, q2, q3, q4⟩ := thing_loop0 l R.length (R ++ [row 8 [] [(a : Int)]]) (rowsOK_snoc hR (by simp [pOK, textFit, kidsNum]; omega)) (by simp) (by simp; omega)
        refine ⟨a', R', q1, q2, by simp only [mReps, hr]; simp at q3 ⊢; omega, ?_⟩
        have hp := put_kids 8 [] [(a : Int)] (by simp) l false R R.length rfl ⟨by omega, by omega⟩
        rw [decide_eq_false c1] at h1
        rw [decide_eq_true c2] at h2
        simp only [adv, List.drop_succ_cons, List.drop_zero, rI, List.map_cons, List.map_nil, List.length_cons, List.length_nil, Nat.zero_add, Nat.reduceAdd, List.length_append] at h1 h2 hp q4
        simp only [mReps, hr]
        rw [← q4]
        clear q4 hR h3 c2 c1 hr q1 q2 q3
        refine lpW true (fun _ => W83.2) W83.1 rfl fun c hl => ?_; simp only [subR, chi, okW, List.length_cons, List.length_nil, Nat.reduceAdd, firstReg, and_true] at c hl; (try simp (maxSteps := 4000000) (disch := first | assumption | omega) only [go_sem, *, h1, h2, hp, List.length_append, ↓bin_eqI, ↓bin_neI, Nat.reduceAdd, Nat.reduceSub, Nat.reduceMul, Nat.reduceBEq, Nat.reduceLeDiff, Nat.reduceLT, Nat.reduceDiv, Nat.reduceMod]); repeat' ((first | with_reducible first | refine caK (fun hb => ?_) fun hb => ?_ | refine caG (fun hb => ?_) fun hb => ?_ | refine caP (fun hb => ?_) fun hb => ?_ | refine caH (fun hb => ?_) fun hb => ?_ | refine caQ (fun hb => ?_) fun hb => ?_ | refine ite_cases (fun hb => ?_) fun hb => ?_ | rw [drwK_ok rfl]) <;> try simp (maxSteps := 4000000) (disch := first | assumption | omega) only [go_sem, *, h1, h2, hp, List.length_append, ↓bin_eqI, ↓bin_neI, Nat.reduceAdd, Nat.reduceSub, Nat.reduceMul, Nat.reduceBEq, Nat.reduceLeDiff, Nat.reduceLT, Nat.reduceDiv, Nat.reduceMod])
      · skip
        by_cases c3 : (b.toNat : Int) = 63
        · have hr : isRep b = true := by simp [isRep, c3]
          obtain ⟨a', R', q1, q2, q3, q4⟩ := thing_loop0 l R.length (R ++ [row 9 [] [(a : Int)]]) (rowsOK_snoc hR (by simp [pOK, textFit, kidsNum]; omega)) (by simp) (by simp; omega)
          refine ⟨a', R', q1, q2, by simp only [mReps, hr]; simp at q3 ⊢; omega, ?_⟩
          have hp := put_kids 9 [] [(a : Int)] (by simp) l false R R.length rfl ⟨by omega, by omega⟩
          rw [decide_eq_false c1] at h1
          rw [decide_eq_false c2] at h2
          rw [decide_eq_true c3] at h3
          simp only [adv, List.drop_succ_cons, List.drop_zero, rI, List.map_cons, List.map_nil, List.length_cons, List.length_nil, Nat.zero_add, Nat.reduceAdd, List.length_append] at h1 h2 h3 hp q4
          simp only [mReps, hr]
          rw [← q4]
          clear q4 hR  c3 c1 c2 hr q1 q2 q3
          refine lpW true (fun _ => W83.2) W83.1 rfl fun c hl => ?_; simp only [subR, chi, okW, List.length_cons, List.length_nil, Nat.reduceAdd, firstReg, and_true] at c hl; (try simp (maxSteps := 4000000) (disch := first | assumption | omega) only [go_sem, *, h1, h2, h3, hp, List.length_append, ↓bin_eqI, ↓bin_neI, Nat.reduceAdd, Nat.reduceSub, Nat.reduceMul, Nat.reduceBEq, Nat.reduceLeDiff, Nat.reduceLT, Nat.reduceDiv, Nat.reduceMod]); repeat' ((first | with_reducible first | refine caK (fun hb => ?_) fun hb => ?_ | refine caG (fun hb => ?_) fun hb => ?_ | refine caP (fun hb => ?_) fun hb => ?_ | refine caH (fun hb => ?_) fun hb => ?_ | refine caQ (fun hb => ?_) fun hb => ?_ | refine ite_cases (fun hb => ?_) fun hb => ?_ | rw [drwK_ok rfl]) <;> try simp (maxSteps := 4000000) (disch := first | assumption | omega) only [go_sem, *, h1, h2, h3, hp, List.length_append, ↓bin_eqI, ↓bin_neI, Nat.reduceAdd, Nat.reduceSub, Nat.reduceMul, Nat.reduceBEq, Nat.reduceLeDiff, Nat.reduceLT, Nat.reduceDiv, Nat.reduceMod])
        · skip
          have hr : isRep b = false := by simp [isRep, c1, c2, c3]
          refine ⟨a, R, hR, ha, by simp only [mReps, hr], ?_⟩
          rw [decide_eq_false c1] at h1
          rw [decide_eq_false c2] at h2
          rw [decide_eq_false c3] at h3
          simp only [adv] at h1 h2 h3
          simp only [mReps, hr]
          clear hR c1 c2 c3 hr
          exact lp W83
theorem thing_loop1 : ∀ (l : List UInt8) (a : Nat) (R : List (List D)), RowsOK R → a < R.length → R.length + l.length ≤ 100 →
    ∃ (a' : Nat) (R' : List (List D)), RowsOK R' ∧ a' < R'.length ∧ R'.length + (mReps l).length = R.length + l.length ∧
    loopC Try.prog T (fnL Try.prog T L0) 83 (cq Try.f83 [0, 0, 0, 1, 1]) ⟨[.one (.c (.ptr 0 0 0)), J, J, .one (.c (.d (.v (.int .i64 ((a : Int)))))), J, J, J, J, J, J, J, J, J, J, J, J, J, J, J, J, J, J, J, J, J, J, J, J, J, J, J, J, J, J], hpOf [some (.var [.d (.v (.string (B (l)))), .arr 2 0 R.length, .d (.v (.bool (false)))]), none, some (.arr 3 R)], 3, 2⟩ =
      some (.ret, ⟨[J, J, .one (.c (.d (.v (.int .i64 ((a' : Int)))))), .one (.c (.d (.v (.int .i64 ((a' : Int)))))), J, J, J, J, J, J, J, J, J, J, J, J, J, J, J, J, J, J, J, J, J, J, J, J, J, J, J, J, J, J], hpOf [some (.var [.d (.v (.string (B (mReps l)))), .arr 2 0 R'.length, .d (.v (.bool (false)))]), none, some (.arr 3 R')], 3, 2⟩)
  | [], a, R, hR, ha, hl => by
    refine ⟨a, R, hR, ha, rfl, ?_⟩
    have h1 := take_ne 42 [] false R (by omega)
    have h2 := take_ne 43 [] false R (by omega)
    have h3 := take_ne 63 [] false R (by omega)
    simp only [nx, adv, show ((42 : UInt8).toNat : Int) = 42 from rfl, show ((43 : UInt8).toNat : Int) = 43 from rfl, show ((63 : UInt8).toNat : Int) = 63 from rfl] at h1 h2 h3
    simp only [mReps]
    clear hR
    exact lp W83
  | b :: l, a, R, hR, ha, hl => by
    have h1 := take_ne 42 (b :: l) false R (by omega)
    have h2 := take_ne 43 (b :: l) false R (by omega)
    have h3 := take_ne 63 (b :: l) false R (by omega)
    simp only [nx, show ((42 : UInt8).toNat : Int) = 42 from rfl, show ((43 : UInt8).toNat : Int) = 43 from rfl, show ((63 : UInt8).toNat : Int) = 63 from rfl] at h1 h2 h3
    have hll : l.length + 1 = (b :: l).length := rfl
    by_cases c1 : (b.toNat : Int) = 42
    · have hr : isRep b = true := by simp [isRep, c1]
      obtain ⟨a', R', q1, q2, q3, q4⟩ := thing_loop1 l R.length (R ++ [row 7 [] [(a : Int)]]) (rowsOK_snoc hR (by simp [pOK, textFit, kidsNum]; omega)) (by simp) (by simp; omega)
      refine ⟨a', R', q1, q2, by simp only [mReps, hr]; simp at q3 ⊢; omega, ?_⟩
      have hp := put_kids 7 [] [(a : Int)] (by simp) l false R R.length rfl ⟨by omega, by omega⟩
      rw [decide_eq_true c1] at h1
      simp only [adv, List.drop_succ_cons, List.drop_zero, rI, List.map_cons, List.map_nil, List.length_cons, List.length_nil, Nat.zero_add, Nat.reduceAdd, List.length_append] at h1 hp q4
      simp only [mReps, hr]
      rw [← q4]
      clear q4 hR h2 h3 c1  hr q1 q2 q3
      refine lpW true (fun _ => W83.2) W83.1 rfl fun c hl => ?_; simp only [subR, chi, okW, List.length_cons, List.length_nil, Nat.reduceAdd, firstReg, and_true] at c hl; (try simp (maxSteps := 4000000) (disch := first | assumption | omega) only [go_sem, *, h1, hp, List.length_append, ↓bin_eqI, ↓bin_neI, Nat.reduceAdd, Nat.reduceSub, Nat.reduceMul, Nat.reduceBEq, Nat.reduceLeDiff, Nat.reduceLT, Nat.reduceDiv, Nat.reduceMod]); repeat' ((first | with_reducible first | refine caK (fun hb => ?_) fun hb => ?_ | refine caG (fun hb => ?_) fun hb => ?_ | refine caP (fun hb => ?_) fun hb => ?_ | refine caH (fun hb => ?_) fun hb => ?_ | refine caQ (fun hb => ?_) fun hb => ?_ | refine ite_cases (fun hb => ?_) fun hb => ?_ | rw [drwK_ok rfl]) <;> try simp (maxSteps := 4000000) (disch := first | assumption | omega) only [go_sem, *, h1, hp, List.length_append, ↓bin_eqI, ↓bin_neI, Nat.reduceAdd, Nat.reduceSub, Nat.reduceMul, Nat.reduceBEq, Nat.reduceLeDiff, Nat.reduceLT, Nat.reduceDiv, Nat.reduceMod])
    · skip
      by_cases c2 : (b.toNat : Int) = 43
      · have hr : isRep b = true := by simp [isRep, c2]
        obtain ⟨a', R', q1, q2, q3, q4⟩ := thing_loop1 l R.length (R ++ [row 8 [] [(a : Int)]]) (rowsOK_snoc hR (by simp [pOK, textFit, kidsNum]; omega)) (by simp) (by simp; omega)
        refine ⟨a', R', q1, q2, by simp only [mReps, hr]; simp at q3 ⊢; omega, ?_⟩
        have hp := put_kids 8 [] [(a : Int)] (by simp) l false R R.length rfl ⟨by omega, by omega⟩
        rw [decide_eq_false c1] at h1
        rw [decide_eq_true c2] at h2
        simp only [adv, List.drop_succ_cons, List.drop_zero, rI, List.map_cons, List.map_nil, List.length_cons, List.length_nil, Nat.zero_add, Nat.reduceAdd, List.length_append] at h1 h2 hp q4
        simp only [mReps, hr]
        rw [← q4]
        clear q4 hR h3 c2 c1 hr q1 q2 q3
        refine lpW true (fun _ => W83.2) W83.1 rfl fun c hl => ?_; simp only [subR, chi, okW, List.length_cons, List.length_nil, Nat.reduceAdd, firstReg, and_true] at c hl; (try simp (maxSteps := 4000000) (disch := first | assumption | omega) only [go_sem, *, h1, h2, hp, List.length_append, ↓bin_eqI, ↓bin_neI, Nat.reduceAdd, Nat.reduceSub, Nat.reduceMul, Nat.reduceBEq, Nat.reduceLeDiff, Nat.reduceLT, Nat.reduceDiv, Nat.reduceMod]); repeat' ((first | with_reducible first | refine caK (fun hb => ?_) fun hb => ?_ | refine caG (fun hb => ?_) fun hb => ?_ | refine caP (fun hb => ?_) fun hb => ?_ | refine caH (fun hb => ?_) fun hb => ?_ | refine caQ (fun hb => ?_) fun hb => ?_ | refine ite_cases (fun hb => ?_) fun hb => ?_ | rw [drwK_ok rfl]) <;> try simp (maxSteps := 4000000) (disch := first | assumption | omega) only [go_sem, *, h1, h2, hp, List.length_append, ↓bin_eqI, ↓bin_neI, Nat.reduceAdd, Nat.reduceSub, Nat.reduceMul, Nat.reduceBEq, Nat.reduceLeDiff, Nat.reduceLT, Nat.reduceDiv, Nat.reduceMod])
      · skip
        by_cases c3 : (b.toNat : Int) = 63
        · have hr : isRep b = true := by simp [isRep, c3]
          obtain ⟨a', R', q1, q2, q3, q4⟩ := thing_loop1 l R.length (R ++ [row 9 [] [(a : Int)]]) (rowsOK_snoc hR (by simp [pOK, textFit, kidsNum]; omega)) (by simp) (by simp; omega)
          refine ⟨a', R', q1, q2, by simp only [mReps, hr]; simp at q3 ⊢; omega, ?_⟩
          have hp := put_kids 9 [] [(a : Int)] (by simp) l false R R.length rfl ⟨by omega, by omega⟩
          rw [decide_eq_false c1] at h1
          rw [decide_eq_false c2] at h2
          rw [decide_eq_true c3] at h3
          simp only [adv, List.drop_succ_cons, List.drop_zero, rI, List.map_cons, List.map_nil, List.length_cons, List.length_nil, Nat.zero_add, Nat.reduceAdd, List.length_append] at h1 h2 h3 hp q4
          simp only [mReps, hr]
          rw [← q4]
          clear q4 hR  c3 c1 c2 hr q1 q2 q3
          refine lpW true (fun _ => W83.2) W83.1 rfl fun c hl => ?_; simp only [subR, chi, okW, List.length_cons, List.length_nil, Nat.reduceAdd, firstReg, and_true] at c hl; (try simp (maxSteps := 4000000) (disch := first | assumption | omega) only [go_sem, *, h1, h2, h3, hp, List.length_append, ↓bin_eqI, ↓bin_neI, Nat.reduceAdd, Nat.reduceSub, Nat.reduceMul, Nat.reduceBEq, Nat.reduceLeDiff, Nat.reduceLT, Nat.reduceDiv, Nat.reduceMod]); repeat' ((first | with_reducible first | refine caK (fun hb => ?_) fun hb => ?_ | refine caG (fun hb => ?_) fun hb => ?_ | refine caP (fun hb => ?_) fun hb => ?_ | refine caH (fun hb => ?_) fun hb => ?_ | refine caQ (fun hb => ?_) fun hb => ?_ | refine ite_cases (fun hb => ?_) fun hb => ?_ | rw [drwK_ok rfl]) <;> try simp (maxSteps := 4000000) (disch := first | assumption | omega) only [go_sem, *, h1, h2, h3, hp, List.length_append, ↓bin_eqI, ↓bin_neI, Nat.reduceAdd, Nat.reduceSub, Nat.reduceMul, Nat.reduceBEq, Nat.reduceLeDiff, Nat.reduceLT, Nat.reduceDiv, Nat.reduceMod])
        · skip
          have hr : isRep b = false := by simp [isRep, c1, c2, c3]
          refine ⟨a, R, hR, ha, by simp only [mReps, hr], ?_⟩
          rw [decide_eq_false c1] at h1
          rw [decide_eq_false c2] at h2
          rw [decide_eq_false c3] at h3
          simp only [adv] at h1 h2 h3
          simp only [mReps, hr]
          clear hR c1 c2 c3 hr
          exact lp W83
def Good (c : Nat) (l : List UInt8) (R0 : List (List D)) (rest : List UInt8) (a : Nat) (R : List (List D)) : Prop :=
  RowsOK R ∧ a < R.length ∧ (R0.length < R.length ∧ R.length + 2 * rest.length + 1 ≤ R0.length + 2 * l.length + 2 * c) ∧ rest.length + (1 - c) ≤ l.length
def PI (f : FuncId) (m : Nat → List UInt8 → Option (List UInt8)) (c k0 k : Nat) : Prop := ∀ (l : List UInt8) (R0 : List (List D)), 6 * l.length + k0 ≤ k → RowsOK R0 → R0.length + 2 * l.length ≤ 58 + (1 - c) → l.length ≤ 24 →
  Ans (R0.length + 2 * l.length + 2 * c + 1) R0 (fnL Try.prog T L0 f [.c (.ptr 0 0 0)] (hP l false R0)) (Good c l R0) (m k l)
theorem mReps_le : ∀ l : List UInt8, (mReps l).length ≤ l.length
  | [] => Nat.le_refl _
  | b :: l => by
    have := mReps_le l
    unfold mReps
    split <;> simp <;> omega
theorem thing_of (k : Nat) (h : PI 89 mBase 0 3 k) : PI 83 mThing 0 4 (k + 1) := by
  intro l R0 hk hR hlen h24
  have hb := h l R0 (by omega) hR hlen h24
  simp only [mThing]
  cases hm : mBase k l with
  | none =>
    rw [hm] at hb
    obtain ⟨w, bs, e, hbs⟩ := hb
    refine ⟨w, bs, ?_, hbs⟩
    clear hm h hR hlen hk
    rcases hbs with ⟨l', rfl⟩ | ⟨l', R, h1, h2, rfl⟩
    · cases R0
      all_goals
        simp only [hP] at e ⊢
        refine nfW true (fun _ => W83.2) W83.1 Try.func83 rfl rfl fun c ht hr => ?_; simp only [okW, List.length_cons, List.length_nil, Nat.reduceAdd, firstReg, and_true] at c; (try simp (maxSteps := 4000000) (disch := first | assumption | omega) only [go_sem, *, e, loopC_round, ↓bin_eqI, ↓bin_neI, Nat.reduceAdd, Nat.reduceSub, Nat.reduceMul, Nat.reduceBEq, Nat.reduceLeDiff, Nat.reduceLT, Nat.reduceDiv, Nat.reduceMod]); repeat' ((first | with_reducible first | refine caK (fun hb => ?_) fun hb => ?_ | refine caG (fun hb => ?_) fun hb => ?_ | refine caP (fun hb => ?_) fun hb => ?_ | refine caH (fun hb => ?_) fun hb => ?_ | refine caQ (fun hb => ?_) fun hb => ?_ | refine ite_cases (fun hb => ?_) fun hb => ?_ | rw [drwK_ok rfl]) <;> try simp (maxSteps := 4000000) (disch := first | assumption | omega) only [go_sem, *, e, loopC_round, ↓bin_eqI, ↓bin_neI, Nat.reduceAdd, Nat.reduceSub, Nat.reduceMul, Nat.reduceBEq, Nat.reduceLeDiff, Nat.reduceLT, Nat.reduceDiv, Nat.reduceMod])
    · cases R0
      all_goals
        simp only [hP, hQ] at e ⊢
        refine nfW true (fun _ => W83.2) W83.1 Try.func83 rfl rfl fun c ht hr => ?_; simp only [okW, List.length_cons, List.length_nil, Nat.reduceAdd, firstReg, and_true] at c; (try simp (maxSteps := 4000000) (disch := first | assumption | omega) only [go_sem, *, e, loopC_round, ↓bin_eqI, ↓bin_neI, Nat.reduceAdd, Nat.reduceSub, Nat.reduceMul, Nat.reduceBEq, Nat.reduceLeDiff, Nat.reduceLT, Nat.reduceDiv, Nat.reduceMod]); repeat' ((first | with_reducible first | refine caK (fun hb => ?_) fun hb => ?_ | refine caG (fun hb => ?_) fun hb => ?_ | refine caP (fun hb => ?_) fun hb => ?_ | refine caH (fun hb => ?_) fun hb => ?_ | refine caQ (fun hb => ?_) fun hb => ?_ | refine ite_cases (fun hb => ?_) fun hb => ?_ | rw [drwK_ok rfl]) <;> try simp (maxSteps := 4000000) (disch := first | assumption | omega) only [go_sem, *, e, loopC_round, ↓bin_eqI, ↓bin_neI, Nat.reduceAdd, Nat.reduceSub, Nat.reduceMul, Nat.reduceBEq, Nat.reduceLeDiff, Nat.reduceLT, Nat.reduceDiv, Nat.reduceMod])
  | some r =>
    rw [hm] at hb
    obtain ⟨a, R, e, g1, g2, g3, g4⟩ := hb
    have hle := mReps_le r
    clear hm h
    cases R0 with
    | nil =>
      obtain ⟨a', R', q1, q2, q3, q4⟩ := thing_loop0 r a R g1 g2 (by simp at g3 hlen; omega)
      refine ⟨a', R', ?_, q1, q2, by simp at g3 ⊢; omega, by simp at g4 ⊢; omega⟩
      clear q1 q2 q3 g1 g2 g3 g4 hR hlen hk hle
      simp only [hP, hQ] at e ⊢
      exact fn W83 Try.func83
    | cons p ps =>
      obtain ⟨a', R', q1, q2, q3, q4⟩ := thing_loop1 r a R g1 g2 (by simp at g3 hlen; omega)
      refine ⟨a', R', ?_, q1, q2, by simp at g3 ⊢; omega, by simp at g4 ⊢; omega⟩
      clear q1 q2 q3 g1 g2 g3 g4 hR hlen hk hle
      simp only [hP, hQ] at e ⊢
      exact fn W83 Try.func83
def mGroup (k : Nat) (l : List UInt8) : Option (List UInt8) := match mAlt k l with
  | none => none
  | some r => match nx 41 r with | true => some (r.drop 1) | false => none
theorem group_of (M k : Nat) (h : PI 63 mAlt 1 6 k) (l : List UInt8) (R0 : List (List D)) (hk : 6 * l.length + 6 ≤ k) (hR : RowsOK R0) (hlen : R0.length + 2 * l.length ≤ 58) (h24 : l.length ≤ 24) (hM : R0.length + 2 * l.length + 3 ≤ M) :
    Ans M R0 (fnL Try.prog T L0 93 [.c (.ptr 0 0 0)] (hP l false R0)) (fun rest a R => RowsOK R ∧ a < R.length ∧ (R0.length < R.length ∧ R.length + 2 * rest.length + 1 ≤ R0.length + 2 * l.length) ∧ rest.length + 1 ≤ l.length) (mGroup k l) := by
  have hb := h l R0 (by omega) hR (by omega) h24
  have e41 : ((41 : UInt8).toNat : Int) = 41 := rfl
  simp only [mGroup]
  cases hm : mAlt k l with
  | none =>
    rw [hm] at hb
    obtain ⟨w, bs, e, hbs⟩ := hb
    clear hm h hR hlen hk
    rcases hbs with ⟨l', rfl⟩ | ⟨l', R, h1, h2, rfl⟩
    · have ht := take_ok 41 l' true R0
      rw [e41] at ht
      refine ⟨w, hP (adv (nx 41 l') l') true R0, ?_, .inl ⟨_, rfl⟩⟩
      generalize adv (nx 41 l') l' = l2 at ht ⊢
      generalize nx 41 l' = nb at ht
      cases nb <;> cases R0
      all_goals
        simp only [hP] at e ht ⊢
        exact fn W93 Try.func93
    · have h2 : R.length ≤ M := by omega
      have ht := take_ne 41 l' true R h1
      rw [e41] at ht
      refine ⟨w, hQ R0 (adv (nx 41 l') l') true R, ?_, .inr ⟨_, R, h1, h2, rfl⟩⟩
      generalize adv (nx 41 l') l' = l2 at ht ⊢
      generalize nx 41 l' = nb at ht
      cases nb <;> cases R0
      all_goals
        simp only [hP, hQ] at e ht ⊢
        exact fn W93 Try.func93
  | some r =>
    rw [hm] at hb
    obtain ⟨a, R, e, g1, g2, g3, g4⟩ := hb
    have ht := take_ne 41 r false R (by omega)
    rw [e41] at ht
    have hdl : nx 41 r = true → (r.drop 1).length + 1 = r.length := by cases r with | nil => simp [nx] | cons => simp
    clear hm h
    simp only
    generalize nx 41 r = nb at ht hdl ⊢
    cases nb with
    | true =>
      replace hdl := hdl rfl
      refine ⟨a, R, ?_, g1, g2, by omega, by omega⟩
      clear g1 g2 g3 g4 hR hlen hk hdl
      simp only [adv] at ht
      cases R0
      all_goals
        simp only [hP, hQ] at e ht ⊢
        exact fn W93 Try.func93
    | false =>
      refine ⟨a, hQ R0 r true R, ?_, .inr ⟨r, R, by omega, by omega, rfl⟩⟩
      clear g1 g2 g3 g4 hR hlen hk hdl
      simp only [adv] at ht
      cases R0
      all_goals
        simp only [hP, hQ] at e ht ⊢
        exact fn W93 Try.func93
end
end Go.Vsi
