/- What the functions of the program, of the reference and of the law do (a part of it). -/
import Derived.Test.YtgphmleklcicaaaP2
namespace Go.Vsi
open Go.Proofs
noncomputable section
set_option maxRecDepth 100000
set_option maxHeartbeats 4000000
set_option linter.unusedSimpArgs false
set_option linter.unusedVariables false
attribute [local go_sem ↓] IX9
/-! impl's reader of patterns: its small functions -/
def rP (ps : List GPiece) : List (List D) := ps.map GPiece.enc
theorem rP_len (ps : List GPiece) : (rP ps).length = ps.length := by simp [rP]
theorem rP_snoc (ps : List GPiece) (x : GPiece) : rP ps ++ [x.enc] = rP (ps ++ [x]) := by simp [rP]
/-- The reader's blocks: what is left of the text, whether it is bad, the pieces so far (as rows). -/
def hP (l : List UInt8) (bad : Bool) : List (List D) → List (Option Blk)
  | [] => [some (.var [.d (.v (.string (B (l)))), .d (.v (.slice none 0 0)), .d (.v (.bool (bad)))])]
  | p :: ps => [some (.var [.d (.v (.string (B (l)))), .arr 1 0 (ps.length + 1), .d (.v (.bool (bad)))]), some (.arr 3 (p :: ps))]
/-- Its blocks behind a call that put pieces. -/
def hQ (R0 : List (List D)) (l : List UInt8) (bad : Bool) (R : List (List D)) : List (Option Blk) :=
  match R0 with
  | [] => [some (.var [.d (.v (.string (B (l)))), .arr 1 0 R.length, .d (.v (.bool (bad)))]), some (.arr 3 R)]
  | _ :: _ => [some (.var [.d (.v (.string (B (l)))), .arr 2 0 R.length, .d (.v (.bool (bad)))]), none, some (.arr 3 R)]
theorem copyInts_sl (xs : List Int) (h : xs.length ≤ 4) : fnL Try.prog T L0 38 [.c (.d (.sl 1 (rI xs)))] [] = some (.one (.c (.d (.sl 1 (rI xs)))), []) := by
  have hroom : room = 70368744177664 := rfl
  have hl : (rI xs).length = xs.length := by simp [rI]
  have ha : ((rI xs).all fun r => r.length == 1) = true := by simp [rI]
  have ht : (rI xs).take xs.length = rI xs := List.take_of_length_le (by omega)
  exact fns W38 Try.func38
theorem copyInts_nil : fnL Try.prog T L0 38 [.c (.d (.v (.slice none 0 0)))] [] = some (.one (.c (.d (.sl 1 ([])))), []) := by
  exact fns W38 Try.func38
theorem copyInts_arr (xs : List Int) (h : xs.length ≤ 4) : fnL Try.prog T L0 38 [.c (.arr 0 0 xs.length)] [some (.arr 1 (rI xs))] = some (.one (.c (.d (.sl 1 (rI xs)))), [some (.arr 1 (rI xs))]) := by
  have hroom : room = 70368744177664 := rfl
  have hl : (rI xs).length = xs.length := by simp [rI]
  have ha : ((rI xs).all fun r => r.length == 1) = true := by simp [rI]
  have ht : (rI xs).take xs.length = rI xs := List.take_of_length_le (by omega)
  exact fns W38 Try.func38
theorem ix0 (b : UInt8) (l : List UInt8) : pure1 Try.prog (Instr.index 9 (.string (B (b :: l))) (.int .i64 0)) = some (.one (.c (.d (.v (.int .u8 ((b.toNat : Int))))))) := IX9 (b :: l) .i64 0 ⟨by omega, by simp⟩
def adv (b : Bool) (l : List UInt8) : List UInt8 := match b with | true => l.drop 1 | false => l
/-- Does this byte come next? -/
def nx (c : UInt8) : List UInt8 → Bool
  | [] => false
  | b :: _ => decide ((b.toNat : Int) = (c.toNat : Int))
theorem is_ok (c : UInt8) (l : List UInt8) (bad : Bool) (ps : List (List D)) : fnL Try.prog T L0 82 [.c (.ptr 0 0 0), .c (.d (.v (.int .u8 ((c.toNat : Int)))))] (hP l bad ps) = some (.one (.c (.d (.v (.bool (nx c l))))), hP l bad ps) := by
  cases ps
  all_goals
    cases l with
    | nil =>
      simp only [hP, nx]
      exact fns W82 Try.func82
    | cons b l =>
      have e2 : ((b :: l) = []) = False := by simp
      simp only [hP, nx]
      refine nfW true (fun _ => W82.2) W82.1 Try.func82 rfl rfl fun c ht hr => ?_; simp only [okW, List.length_cons, List.length_nil, Nat.reduceAdd, firstReg, and_true] at c; (try simp (maxSteps := 4000000) (disch := first | assumption | omega) only [go_sem, *, e2, ix0, pairsOk, ↓bin_eql, ↓bin_neq, Nat.reduceAdd, Nat.reduceSub, Nat.reduceMul, Nat.reduceBEq, Nat.reduceLeDiff, Nat.reduceLT, Nat.reduceDiv, Nat.reduceMod, drwK_some, disj, ordered, ancs]); repeat' ((first | with_reducible first | refine caK (fun hb => ?_) fun hb => ?_ | refine caG (fun hb => ?_) fun hb => ?_ | refine caP (fun hb => ?_) fun hb => ?_ | refine caH (fun hb => ?_) fun hb => ?_ | refine caQ (fun hb => ?_) fun hb => ?_ | refine ite_cases (fun hb => ?_) fun hb => ?_) <;> try simp (maxSteps := 4000000) (disch := first | assumption | omega) only [go_sem, *, e2, ix0, pairsOk, ↓bin_eql, ↓bin_neq, Nat.reduceAdd, Nat.reduceSub, Nat.reduceMul, Nat.reduceBEq, Nat.reduceLeDiff, Nat.reduceLT, Nat.reduceDiv, Nat.reduceMod, drwK_some, disj, ordered, ancs])
theorem take_ok (c : UInt8) (l : List UInt8) (bad : Bool) (ps : List (List D)) : fnL Try.prog T L0 71 [.c (.ptr 0 0 0), .c (.d (.v (.int .u8 ((c.toNat : Int)))))] (hP l bad ps) = some (.one (.c (.d (.v (.bool (nx c l))))), hP (adv (nx c l) l) bad ps) := by
  have hi := is_ok c l bad ps
  cases ps
  all_goals
    cases l with
    | nil =>
      simp only [hP, nx, adv] at hi ⊢
      exact fns W71 Try.func71
    | cons b l =>
      simp only [nx] at hi ⊢
      generalize decide ((b.toNat : Int) = (c.toNat : Int)) = t at hi ⊢
      cases t
      all_goals
        simp only [hP, adv] at hi ⊢
        have ht : ((b :: l).drop 1).take ((b :: l).length - 1) = l := by simp
        have ht2 : (b :: l).drop 1 = l := rfl
        have ht3 : l.take (l.length + 1 - 1) = l := by simp
        refine nfW true (fun _ => W71.2) W71.1 Try.func71 rfl rfl fun c ht hr => ?_; simp only [okW, List.length_cons, List.length_nil, Nat.reduceAdd, firstReg, and_true] at c; (try simp (maxSteps := 4000000) (disch := first | assumption | omega) only [go_sem, *, hi, ht, ht2, ht3, Int.toNat_one, Int.le_refl, pairsOk, ↓bin_eql, ↓bin_neq, Nat.reduceAdd, Nat.reduceSub, Nat.reduceMul, Nat.reduceBEq, Nat.reduceLeDiff, Nat.reduceLT, Nat.reduceDiv, Nat.reduceMod, drwK_some, disj, ordered, ancs]); repeat' ((first | with_reducible first | refine caK (fun hb => ?_) fun hb => ?_ | refine caG (fun hb => ?_) fun hb => ?_ | refine caP (fun hb => ?_) fun hb => ?_ | refine caH (fun hb => ?_) fun hb => ?_ | refine caQ (fun hb => ?_) fun hb => ?_ | refine ite_cases (fun hb => ?_) fun hb => ?_) <;> try simp (maxSteps := 4000000) (disch := first | assumption | omega) only [go_sem, *, hi, ht, ht2, ht3, Int.toNat_one, Int.le_refl, pairsOk, ↓bin_eql, ↓bin_neq, Nat.reduceAdd, Nat.reduceSub, Nat.reduceMul, Nat.reduceBEq, Nat.reduceLeDiff, Nat.reduceLT, Nat.reduceDiv, Nat.reduceMod, drwK_some, disj, ordered, ancs])
/-- A piece's row. -/
def row (op : Int) (t : List UInt8) (ks : List Int) : List D := [.v (.int .i64 (op)), .v (.string (B (t))), .sl 1 (rI ks)]
theorem put_nil (op : Int) (t : List UInt8) (l : List UInt8) (bad : Bool) (R : List (List D)) (hn : R.length ≤ 100) : fnL Try.prog T L0 72 [.c (.ptr 0 0 0), .c (.d (.v (.int .i64 (op)))), .c (.d (.v (.string (B (t))))), .c (.d (.v (.slice none 0 0)))] (hP l bad R) = some (.one (.c (.d (.v (.int .i64 ((R.length : Int)))))), hQ R l bad (R ++ [row op t []])) := by
  have hroom : room = 70368744177664 := rfl
  have e : row op t [] = [.v (.int .i64 (op)), .v (.string (B (t))), .sl 1 []] := rfl
  rw [e]
  cases R with
  | nil =>
    simp only [hP, hQ, List.nil_append]
    refine nfW true (fun _ => W72.2) W72.1 Try.func72 rfl rfl fun c ht hr => ?_; simp only [okW, List.length_cons, List.length_nil, Nat.reduceAdd, firstReg, and_true] at c; (try simp (maxSteps := 4000000) (disch := first | assumption | omega) only [go_sem, *, copyInts_nil, arr_all, Option.isSome_some, ↓bin_eqI, ↓bin_neI, Nat.reduceAdd, Nat.reduceSub, Nat.reduceMul, Nat.reduceBEq, Nat.reduceLeDiff, Nat.reduceLT, Nat.reduceDiv, Nat.reduceMod]); repeat' ((first | with_reducible first | refine caK (fun hb => ?_) fun hb => ?_ | refine caG (fun hb => ?_) fun hb => ?_ | refine caP (fun hb => ?_) fun hb => ?_ | refine caH (fun hb => ?_) fun hb => ?_ | refine caQ (fun hb => ?_) fun hb => ?_ | refine ite_cases (fun hb => ?_) fun hb => ?_ | rw [drwK_ok rfl]) <;> try simp (maxSteps := 4000000) (disch := first | assumption | omega) only [go_sem, *, copyInts_nil, arr_all, Option.isSome_some, ↓bin_eqI, ↓bin_neI, Nat.reduceAdd, Nat.reduceSub, Nat.reduceMul, Nat.reduceBEq, Nat.reduceLeDiff, Nat.reduceLT, Nat.reduceDiv, Nat.reduceMod])
    all_goals rfl
  | cons p ps =>
    have hps : ps.length ≤ 99 := by simpa using hn
    obtain ⟨R, hR⟩ : ∃ R, R = p :: ps := ⟨_, rfl⟩
    have hl : R.length = ps.length + 1 := by rw [hR]; rfl
    have ht : R.take (ps.length + 1) = R := List.take_of_length_le (by omega)
    simp only [hP, hQ]
    rw [← hR]
    clear hR hn
    have hs : ((ps.length + 1 + 1 : Nat) : Int) - 1 = ((ps.length + 1 : Nat) : Int) := by omega
    refine nfW true (fun _ => W72.2) W72.1 Try.func72 rfl rfl fun c ht hr => ?_; simp only [okW, List.length_cons, List.length_nil, Nat.reduceAdd, firstReg, and_true] at c; (try simp (maxSteps := 4000000) (disch := first | assumption | omega) only [go_sem, *, copyInts_nil, arr_all, Option.isSome_some, hl, ht, hs, List.length_append, ↓bin_eqI, ↓bin_neI, Nat.reduceAdd, Nat.reduceSub, Nat.reduceMul, Nat.reduceBEq, Nat.reduceLeDiff, Nat.reduceLT, Nat.reduceDiv, Nat.reduceMod]); repeat' ((first | with_reducible first | refine caK (fun hb => ?_) fun hb => ?_ | refine caG (fun hb => ?_) fun hb => ?_ | refine caP (fun hb => ?_) fun hb => ?_ | refine caH (fun hb => ?_) fun hb => ?_ | refine caQ (fun hb => ?_) fun hb => ?_ | refine ite_cases (fun hb => ?_) fun hb => ?_ | rw [drwK_ok rfl]) <;> try simp (maxSteps := 4000000) (disch := first | assumption | omega) only [go_sem, *, copyInts_nil, arr_all, Option.isSome_some, hl, ht, hs, List.length_append, ↓bin_eqI, ↓bin_neI, Nat.reduceAdd, Nat.reduceSub, Nat.reduceMul, Nat.reduceBEq, Nat.reduceLeDiff, Nat.reduceLT, Nat.reduceDiv, Nat.reduceMod])
theorem put_kids (op : Int) (t : List UInt8) (ks : List Int) (hk : ks.length ≤ 4) (l : List UInt8) (bad : Bool) (R : List (List D)) (n : Nat) (hn : R.length = n) (h1 : 1 ≤ n ∧ n ≤ 100) :
    fnL Try.prog T L0 72 [.c (.ptr 0 0 0), .c (.d (.v (.int .i64 (op)))), .c (.d (.v (.string (B (t))))), .c (.arr 2 0 ks.length)] [some (.var [.d (.v (.string (B (l)))), .arr 1 0 n, .d (.v (.bool (bad)))]), some (.arr 3 R), some (.arr 1 (rI ks))] =
      some (.one (.c (.d (.v (.int .i64 ((n : Int)))))), [some (.var [.d (.v (.string (B (l)))), .arr 3 0 (n + 1), .d (.v (.bool (bad)))]), none, some (.arr 1 (rI ks)), some (.arr 3 (R ++ [row op t ks]))]) := by
  have hroom : room = 70368744177664 := rfl
  have e : row op t ks = [.v (.int .i64 (op)), .v (.string (B (t))), .sl 1 (rI ks)] := rfl
  rw [e]
  have ht : R.take n = R := List.take_of_length_le (by omega)
  have hs : ((n + 1 : Nat) : Int) - 1 = (n : Int) := by omega
  have hc := copyInts_arr ks hk
  exact fn W72 Try.func72
theorem sIndexByte_ok (s : List UInt8) (c : UInt8) : fnL Try.prog T L0 84 [.c (.d (.v (.string (B (s))))), .c (.d (.v (.int .u8 ((c.toNat : Int)))))] [] = some (.one (.c (.d (.v (.int .i64 (Go.Lib.indexByte s c))))), []) := by
  have h := indexByte_ok s c
  exact fn W84 Try.func84
/-- What stands ahead of a closing bracket, and behind it. -/
def mCut : List UInt8 → Option (List UInt8 × List UInt8)
  | [] => none
  | b :: l => if b = 93 then some ([], l) else match mCut l with | none => none | some (x, y) => some (b :: x, y)
theorem mCut_none : ∀ l : List UInt8, mCut l = none → Go.Lib.indexByte l 93 = -1
  | [], _ => rfl
  | b :: l, h => by
    unfold mCut at h
    split at h
    · cases h
    · rename_i hb
      have : mCut l = none := by
        revert h
        cases mCut l with
        | none => intro _; rfl
        | some x => intro h; cases h
      have ih := mCut_none l this
      unfold Go.Lib.indexByte
      rw [ih]
      simp [hb]
theorem mCut_some : ∀ (l x y : List UInt8), mCut l = some (x, y) → l = x ++ 93 :: y ∧ Go.Lib.indexByte l 93 = x.length
  | [], x, y, h => by cases h
  | b :: l, x, y, h => by
    unfold mCut at h
    split at h
    · rename_i hb
      obtain ⟨rfl, rfl⟩ := Prod.mk.inj (Option.some.inj h)
      subst hb
      exact ⟨rfl, by simp [Go.Lib.indexByte]⟩
    · rename_i hb
      cases hc : mCut l with
      | none => rw [hc] at h; cases h
      | some z =>
        obtain ⟨x', y'⟩ := z
        rw [hc] at h
        obtain ⟨rfl, rfl⟩ := Prod.mk.inj (Option.some.inj h)
        obtain ⟨h1, h2⟩ := mCut_some l x' y' hc
        refine ⟨by rw [h1]; rfl, ?_⟩
        unfold Go.Lib.indexByte
        rw [h2]
        have : ¬ (((x'.length : Nat) : Int) == -1) = true := by simp
        simp [hb]
theorem lIndex_ok (s : List UInt8) (hs : s.length ≤ 100) : fnL Try.prog T L0 100 [.c (.d (.v (.string (B (s))))), .c (.d (.v (.string (B ([93])))))] [] = some (.one (.c (.d (.v (.int .i64 (Go.Lib.indexByte s 93))))), []) := by
  have h := indexByte_ok s 93
  have e : ((93 : UInt8).toNat : Int) = 93 := rfl
  rw [e] at h
  have hx := ix0 93 []
  rw [e] at hx
  by_cases hq : [93] = s
  · subst hq
    have h0 : Go.Lib.indexByte [93] 93 = 0 := by decide
    rw [h0] at h ⊢
    exact fn W100 Try.func100
  · have hq2 : decide ([93] = s) = false := by simpa using hq
    exact fn W100 Try.func100
theorem lCut_ok (s : List UInt8) (hs : s.length ≤ 100) : fnL Try.prog T L0 99 [.c (.d (.v (.string (B (s))))), .c (.d (.v (.string (B ([93])))))] [] = some (match mCut s with | none => .tup [.c (.d (.v (.string (B (s))))), .c (.d (.v (.string (B ([]))))), .c (.d (.v (.bool (false))))] | some (x, y) => .tup [.c (.d (.v (.string (B (x))))), .c (.d (.v (.string (B (y))))), .c (.d (.v (.bool (true))))], []) := by
  have h := lIndex_ok s hs
  cases hc : mCut s with
  | none =>
    rw [mCut_none s hc] at h
    refine nfW true (fun _ => W99.2) W99.1 Try.func99 rfl rfl fun c ht hr => ?_; simp only [okW, List.length_cons, List.length_nil, Nat.reduceAdd, firstReg, and_true] at c; (try simp (maxSteps := 4000000) (disch := first | assumption | omega) only [go_sem, *, h, resOnes, Option.toArray, ↓bin_eqI, ↓bin_neI, Nat.reduceAdd, Nat.reduceSub, Nat.reduceMul, Nat.reduceBEq, Nat.reduceLeDiff, Nat.reduceLT, Nat.reduceDiv, Nat.reduceMod]); repeat' ((first | with_reducible first | refine caK (fun hb => ?_) fun hb => ?_ | refine caG (fun hb => ?_) fun hb => ?_ | refine caP (fun hb => ?_) fun hb => ?_ | refine caH (fun hb => ?_) fun hb => ?_ | refine caQ (fun hb => ?_) fun hb => ?_ | refine ite_cases (fun hb => ?_) fun hb => ?_ | rw [drwK_ok rfl]) <;> try simp (maxSteps := 4000000) (disch := first | assumption | omega) only [go_sem, *, h, resOnes, Option.toArray, ↓bin_eqI, ↓bin_neI, Nat.reduceAdd, Nat.reduceSub, Nat.reduceMul, Nat.reduceBEq, Nat.reduceLeDiff, Nat.reduceLT, Nat.reduceDiv, Nat.reduceMod])
  | some z =>
    obtain ⟨x, y⟩ := z
    obtain ⟨h1, h2⟩ := mCut_some s x y hc
    rw [h2] at h
    have hl : s.length = x.length + 1 + y.length := by rw [h1]; simp; omega
    have t1 : (s.drop 0).take (x.length - 0) = x := by rw [h1]; simp
    have t2 : s.take x.length = x := by rw [h1]; simp
    have t3 : (s.drop (x.length + 1)).take (x.length + 1 + y.length - (x.length + 1)) = y := by
      rw [h1, show x.length + 1 + y.length - (x.length + 1) = y.length by omega, show x ++ 93 :: y = (x ++ [93]) ++ y by simp, List.drop_left' (by simp)]
      simp
    have e1 : ((x.length : Int) + ((1 : Nat) : Int)).toNat = x.length + 1 := by omega
    have e2 : (((x.length + 1 + y.length : Nat) : Int)).toNat = x.length + 1 + y.length := by omega
    clear hc h1 h2
    refine nfW true (fun _ => W99.2) W99.1 Try.func99 rfl rfl fun c ht hr => ?_; simp only [okW, List.length_cons, List.length_nil, Nat.reduceAdd, firstReg, and_true] at c; (try simp (maxSteps := 4000000) (disch := first | assumption | omega) only [go_sem, *, h, resOnes, Option.toArray, hl, t2, t3, e1, e2, Nat.sub_zero, Int.toNat_zero, Int.le_refl, ↓bin_eqI, ↓bin_neI, Nat.reduceAdd, Nat.reduceSub, Nat.reduceMul, Nat.reduceBEq, Nat.reduceLeDiff, Nat.reduceLT, Nat.reduceDiv, Nat.reduceMod]); repeat' ((first | with_reducible first | refine caK (fun hb => ?_) fun hb => ?_ | refine caG (fun hb => ?_) fun hb => ?_ | refine caP (fun hb => ?_) fun hb => ?_ | refine caH (fun hb => ?_) fun hb => ?_ | refine caQ (fun hb => ?_) fun hb => ?_ | refine ite_cases (fun hb => ?_) fun hb => ?_ | rw [drwK_ok rfl]) <;> try simp (maxSteps := 4000000) (disch := first | assumption | omega) only [go_sem, *, h, resOnes, Option.toArray, hl, t2, t3, e1, e2, Nat.sub_zero, Int.toNat_zero, Int.le_refl, ↓bin_eqI, ↓bin_neI, Nat.reduceAdd, Nat.reduceSub, Nat.reduceMul, Nat.reduceBEq, Nat.reduceLeDiff, Nat.reduceLT, Nat.reduceDiv, Nat.reduceMod])
theorem sCut_ok (s : List UInt8) (hs : s.length ≤ 100) : fnL Try.prog T L0 98 [.c (.d (.v (.string (B (s))))), .c (.d (.v (.string (B ([93])))))] [] = some (match mCut s with | none => .tup [.c (.d (.v (.string (B (s))))), .c (.d (.v (.string (B ([]))))), .c (.d (.v (.bool (false))))] | some (x, y) => .tup [.c (.d (.v (.string (B (x))))), .c (.d (.v (.string (B (y))))), .c (.d (.v (.bool (true))))], []) := by
  have h := lCut_ok s hs
  cases hc : mCut s with
  | none =>
    rw [hc] at h
    simp only at h
    clear hc
    refine nfW true (fun _ => W98.2) W98.1 Try.func98 rfl rfl fun c ht hr => ?_; simp only [okW, List.length_cons, List.length_nil, Nat.reduceAdd, firstReg, and_true] at c; (try simp (maxSteps := 4000000) (disch := first | assumption | omega) only [go_sem, *, h, resOnes, ↓bin_eqI, ↓bin_neI, Nat.reduceAdd, Nat.reduceSub, Nat.reduceMul, Nat.reduceBEq, Nat.reduceLeDiff, Nat.reduceLT, Nat.reduceDiv, Nat.reduceMod]); repeat' ((first | with_reducible first | refine caK (fun hb => ?_) fun hb => ?_ | refine caG (fun hb => ?_) fun hb => ?_ | refine caP (fun hb => ?_) fun hb => ?_ | refine caH (fun hb => ?_) fun hb => ?_ | refine caQ (fun hb => ?_) fun hb => ?_ | refine ite_cases (fun hb => ?_) fun hb => ?_ | rw [drwK_ok rfl]) <;> try simp (maxSteps := 4000000) (disch := first | assumption | omega) only [go_sem, *, h, resOnes, ↓bin_eqI, ↓bin_neI, Nat.reduceAdd, Nat.reduceSub, Nat.reduceMul, Nat.reduceBEq, Nat.reduceLeDiff, Nat.reduceLT, Nat.reduceDiv, Nat.reduceMod])
  | some z =>
    obtain ⟨x, y⟩ := z
    rw [hc] at h
    simp only at h
    clear hc
    refine nfW true (fun _ => W98.2) W98.1 Try.func98 rfl rfl fun c ht hr => ?_; simp only [okW, List.length_cons, List.length_nil, Nat.reduceAdd, firstReg, and_true] at c; (try simp (maxSteps := 4000000) (disch := first | assumption | omega) only [go_sem, *, h, resOnes, ↓bin_eqI, ↓bin_neI, Nat.reduceAdd, Nat.reduceSub, Nat.reduceMul, Nat.reduceBEq, Nat.reduceLeDiff, Nat.reduceLT, Nat.reduceDiv, Nat.reduceMod]); repeat' ((first | with_reducible first | refine caK (fun hb => ?_) fun hb => ?_ | refine caG (fun hb => ?_) fun hb => ?_ | refine caP (fun hb => ?_) fun hb => ?_ | refine caH (fun hb => ?_) fun hb => ?_ | refine caQ (fun hb => ?_) fun hb => ?_ | refine ite_cases (fun hb => ?_) fun hb => ?_ | rw [drwK_ok rfl]) <;> try simp (maxSteps := 4000000) (disch := first | assumption | omega) only [go_sem, *, h, resOnes, ↓bin_eqI, ↓bin_neI, Nat.reduceAdd, Nat.reduceSub, Nat.reduceMul, Nat.reduceBEq, Nat.reduceLeDiff, Nat.reduceLT, Nat.reduceDiv, Nat.reduceMod])
theorem special_ix (l : List UInt8) (c : UInt8) : decide (0 ≤ Go.Lib.indexByte l c) = l.any (fun x => decide ((x.toNat : Int) = (c.toNat : Int))) := by
  induction l with
  | nil => rfl
  | cons a l ih =>
    rw [List.any_cons, ← ih, byte_eq]
    have hg := Go.Lib.indexByte_ge l c
    rw [show Go.Lib.indexByte (a :: l) c = if a == c then 0 else if Go.Lib.indexByte l c == -1 then -1 else Go.Lib.indexByte l c + 1 from rfl]
    by_cases hac : a = c
    · simp [hac]
    · simp only [hac, beq_iff_eq, if_false, decide_false, Bool.false_or]
      rw [decide_eq_decide]
      split <;> omega
def spec (c : UInt8) : Bool := signs.any fun x => decide ((x.toNat : Int) = (c.toNat : Int))
/-- One byte, or such a one behind a sign. -/
def mSingle : List UInt8 → Option (List UInt8)
  | [] => none
  | b :: l => if (b.toNat : Int) = 92 then (match l with | [] => none | c :: r => if spec c = true then some r else none) else if spec b = true then none else some l
/-- How a reader's function answers: good, with one piece or more; or bad. -/
def Ans (M : Nat) (R0 : List (List D)) (r : Option (W × List (Option Blk))) (good : List UInt8 → Nat → List (List D) → Prop) : Option (List UInt8) → Prop
  | some rest => ∃ (a : Nat) (R : List (List D)), r = some (.one (.c (.d (.v (.int .i64 ((a : Int)))))), hQ R0 rest false R) ∧ good rest a R
  | none => ∃ (w : Int) (bs : List (Option Blk)), r = some (.one (.c (.d (.v (.int .i64 (w))))), bs) ∧ ((∃ l, bs = hP l true R0) ∨ ∃ l R, 1 ≤ R.length ∧ R.length ≤ M ∧ bs = hQ R0 l true R)
theorem sIx_special (c : UInt8) : fnL Try.prog T L0 84 [.c (.d (.v (.string (B ([42, 43, 63, 124, 40, 41, 91, 93, 46, 94, 36, 92]))))), .c (.d (.v (.int .u8 ((c.toNat : Int)))))] [] = some (.one (.c (.d (.v (.int .i64 (Go.Lib.indexByte signs c))))), []) := sIndexByte_ok signs c
theorem single_ok (M : Nat) (l : List UInt8) (R0 : List (List D)) (hR : R0.length ≤ 100) (hl : l.length ≤ 30) :
    Ans M R0 (fnL Try.prog T L0 94 [.c (.ptr 0 0 0)] (hP l false R0)) (fun rest a R => a = R0.length ∧ ∃ t, t.length = 1 ∧ R = R0 ++ [row 1 t []]) (mSingle l) := by
  have e92 : ((92 : UInt8).toNat : Int) = 92 := rfl
  cases l with
  | nil =>
    have ht := take_ok 92 [] false R0
    simp only [nx, adv, e92] at ht
    refine ⟨0, hP [] true R0, ?_, .inl ⟨_, rfl⟩⟩
    cases R0
    all_goals
      simp only [hP] at ht ⊢
      exact fn W94 Try.func94
  | cons b l =>
    have ht := take_ok 92 (b :: l) false R0
    simp only [nx, e92] at ht
    simp only [mSingle]
    by_cases hb : (b.toNat : Int) = 92
    · rw [if_pos hb]
      rw [decide_eq_true hb] at ht
      simp only [adv, List.drop_succ_cons, List.drop_zero] at ht
      cases l with
      | nil =>
        refine ⟨0, hP [] true R0, ?_, .inl ⟨_, rfl⟩⟩
        clear hb
        cases R0
        all_goals
          simp only [hP] at ht ⊢
          exact fn W94 Try.func94
      | cons c r =>
        have hi := sIx_special c
        have hs := special_ix signs c
        have hx := ix0 c r
        have hp := put_nil 1 [c] r false R0 hR
        have ht3 : r.take (r.length + 1 - 1) = r := by simp
        have e2 : ((c :: r) = []) = False := by simp
        have h1le : (1 : Int) ≤ ((r.length + 1 : Nat) : Int) := by omega
        clear hb
        by_cases hc : spec c = true
        · simp only [if_pos hc]
          refine ⟨R0.length, R0 ++ [row 1 [c] []], ?_, rfl, [c], rfl, rfl⟩
          have hs2 : decide (0 ≤ Go.Lib.indexByte signs c) = true := by rw [hs]; exact hc
          clear hs hc
          cases R0
          all_goals
            simp only [hP, hQ] at ht hp ⊢
            refine nfW true (fun _ => W94.2) W94.1 Try.func94 rfl rfl fun c ht hr => ?_; simp only [okW, List.length_cons, List.length_nil, Nat.reduceAdd, firstReg, and_true] at c; (try simp (maxSteps := 4000000) (disch := first | assumption | omega) only [go_sem, *, ht, hi, hs2, hx, hp, ht3, e2, Int.le_refl, Int.toNat_one, Int.toNat_zero, Nat.sub_zero, List.length_append, ↓bin_eqI, ↓bin_neI, Nat.reduceAdd, Nat.reduceSub, Nat.reduceMul, Nat.reduceBEq, Nat.reduceLeDiff, Nat.reduceLT, Nat.reduceDiv, Nat.reduceMod]); repeat' ((first | with_reducible first | refine caK (fun hb => ?_) fun hb => ?_ | refine caG (fun hb => ?_) fun hb => ?_ | refine caP (fun hb => ?_) fun hb => ?_ | refine caH (fun hb => ?_) fun hb => ?_ | refine caQ (fun hb => ?_) fun hb => ?_ | refine ite_cases (fun hb => ?_) fun hb => ?_ | rw [drwK_ok rfl]) <;> try simp (maxSteps := 4000000) (disch := first | assumption | omega) only [go_sem, *, ht, hi, hs2, hx, hp, ht3, e2, Int.le_refl, Int.toNat_one, Int.toNat_zero, Nat.sub_zero, List.length_append, ↓bin_eqI, ↓bin_neI, Nat.reduceAdd, Nat.reduceSub, Nat.reduceMul, Nat.reduceBEq, Nat.reduceLeDiff, Nat.reduceLT, Nat.reduceDiv, Nat.reduceMod])
        · simp only [if_neg hc]
          refine ⟨0, hP (c :: r) true R0, ?_, .inl ⟨_, rfl⟩⟩
          have hs2 : decide (0 ≤ Go.Lib.indexByte signs c) = false := by rw [hs]; simpa [spec] using hc
          clear hs hc hp
          cases R0
          all_goals
            simp only [hP] at ht ⊢
            refine nfW true (fun _ => W94.2) W94.1 Try.func94 rfl rfl fun c ht hr => ?_; simp only [okW, List.length_cons, List.length_nil, Nat.reduceAdd, firstReg, and_true] at c; (try simp (maxSteps := 4000000) (disch := first | assumption | omega) only [go_sem, *, ht, hi, hs2, hx, ht3, e2, Int.le_refl, Int.toNat_one, Int.toNat_zero, Nat.sub_zero, List.length_append, ↓bin_eqI, ↓bin_neI, Nat.reduceAdd, Nat.reduceSub, Nat.reduceMul, Nat.reduceBEq, Nat.reduceLeDiff, Nat.reduceLT, Nat.reduceDiv, Nat.reduceMod]); repeat' ((first | with_reducible first | refine caK (fun hb => ?_) fun hb => ?_ | refine caG (fun hb => ?_) fun hb => ?_ | refine caP (fun hb => ?_) fun hb => ?_ | refine caH (fun hb => ?_) fun hb => ?_ | refine caQ (fun hb => ?_) fun hb => ?_ | refine ite_cases (fun hb => ?_) fun hb => ?_ | rw [drwK_ok rfl]) <;> try simp (maxSteps := 4000000) (disch := first | assumption | omega) only [go_sem, *, ht, hi, hs2, hx, ht3, e2, Int.le_refl, Int.toNat_one, Int.toNat_zero, Nat.sub_zero, List.length_append, ↓bin_eqI, ↓bin_neI, Nat.reduceAdd, Nat.reduceSub, Nat.reduceMul, Nat.reduceBEq, Nat.reduceLeDiff, Nat.reduceLT, Nat.reduceDiv, Nat.reduceMod])
    · rw [if_neg hb]
      rw [decide_eq_false hb] at ht
      simp only [adv] at ht
      have hi := sIx_special b
      have hs := special_ix signs b
      have hx := ix0 b l
      have hp := put_nil 1 [b] l false R0 hR
      have ht3 : l.take (l.length + 1 - 1) = l := by simp
      have e2 : ((b :: l) = []) = False := by simp
      have h1le : (1 : Int) ≤ ((l.length + 1 : Nat) : Int) := by omega
      clear hb
      by_cases hc : spec b = true
      · simp only [if_pos hc]
        refine ⟨0, hP (b :: l) true R0, ?_, .inl ⟨_, rfl⟩⟩
        have hs2 : decide (0 ≤ Go.Lib.indexByte signs b) = true := by rw [hs]; exact hc
        clear hs hc hp
        cases R0
        all_goals
          simp only [hP] at ht ⊢
          refine nfW true (fun _ => W94.2) W94.1 Try.func94 rfl rfl fun c ht hr => ?_; simp only [okW, List.length_cons, List.length_nil, Nat.reduceAdd, firstReg, and_true] at c; (try simp (maxSteps := 4000000) (disch := first | assumption | omega) only [go_sem, *, ht, hi, hs2, hx, ht3, e2, Int.le_refl, Int.toNat_one, Int.toNat_zero, Nat.sub_zero, List.length_append, ↓bin_eqI, ↓bin_neI, Nat.reduceAdd, Nat.reduceSub, Nat.reduceMul, Nat.reduceBEq, Nat.reduceLeDiff, Nat.reduceLT, Nat.reduceDiv, Nat.reduceMod]); repeat' ((first | with_reducible first | refine caK (fun hb => ?_) fun hb => ?_ | refine caG (fun hb => ?_) fun hb => ?_ | refine caP (fun hb => ?_) fun hb => ?_ | refine caH (fun hb => ?_) fun hb => ?_ | refine caQ (fun hb => ?_) fun hb => ?_ | refine ite_cases (fun hb => ?_) fun hb => ?_ | rw [drwK_ok rfl]) <;> try simp (maxSteps := 4000000) (disch := first | assumption | omega) only [go_sem, *, ht, hi, hs2, hx, ht3, e2, Int.le_refl, Int.toNat_one, Int.toNat_zero, Nat.sub_zero, List.length_append, ↓bin_eqI, ↓bin_neI, Nat.reduceAdd, Nat.reduceSub, Nat.reduceMul, Nat.reduceBEq, Nat.reduceLeDiff, Nat.reduceLT, Nat.reduceDiv, Nat.reduceMod])
      · simp only [if_neg hc]
        refine ⟨R0.length, R0 ++ [row 1 [b] []], ?_, rfl, [b], rfl, rfl⟩
        have hs2 : decide (0 ≤ Go.Lib.indexByte signs b) = false := by rw [hs]; simpa [spec] using hc
        clear hs hc
        cases R0
        all_goals
          simp only [hP, hQ] at ht hp ⊢
          refine nfW true (fun _ => W94.2) W94.1 Try.func94 rfl rfl fun c ht hr => ?_; simp only [okW, List.length_cons, List.length_nil, Nat.reduceAdd, firstReg, and_true] at c; (try simp (maxSteps := 4000000) (disch := first | assumption | omega) only [go_sem, *, ht, hi, hs2, hx, hp, ht3, e2, Int.le_refl, Int.toNat_one, Int.toNat_zero, Nat.sub_zero, List.length_append, ↓bin_eqI, ↓bin_neI, Nat.reduceAdd, Nat.reduceSub, Nat.reduceMul, Nat.reduceBEq, Nat.reduceLeDiff, Nat.reduceLT, Nat.reduceDiv, Nat.reduceMod]); repeat' ((first | with_reducible first | refine caK (fun hb => ?_) fun hb => ?_ | refine caG (fun hb => ?_) fun hb => ?_ | refine caP (fun hb => ?_) fun hb => ?_ | refine caH (fun hb => ?_) fun hb => ?_ | refine caQ (fun hb => ?_) fun hb => ?_ | refine ite_cases (fun hb => ?_) fun hb => ?_ | rw [drwK_ok rfl]) <;> try simp (maxSteps := 4000000) (disch := first | assumption | omega) only [go_sem, *, ht, hi, hs2, hx, hp, ht3, e2, Int.le_refl, Int.toNat_one, Int.toNat_zero, Nat.sub_zero, List.length_append, ↓bin_eqI, ↓bin_neI, Nat.reduceAdd, Nat.reduceSub, Nat.reduceMul, Nat.reduceBEq, Nat.reduceLeDiff, Nat.reduceLT, Nat.reduceDiv, Nat.reduceMod])
end
end Go.Vsi
