/- What the functions of the program, of the reference and of the law do (a part of it). -/
import Derived.Test.YtgphmleklcicaaaP1
namespace Go.Vsi
open Go.Proofs
noncomputable section
set_option maxRecDepth 100000
set_option maxHeartbeats 4000000
set_option linter.unusedSimpArgs false
set_option linter.unusedVariables false
attribute [local go_sem ↓] IX9
def krange (op : Int) : Int × Int :=
  if op = 4 ∨ op = 5 ∨ op = 8 ∨ op = 16 ∨ op = 18 ∨ op = 19 then (1, 1)
  else if op = 9 ∨ op = 10 ∨ op = 11 ∨ op = 12 ∨ op = 13 ∨ op = 14 ∨ op = 15 ∨ op = 20 ∨ op = 21 then (2, 2)
  else if op = 17 then (1, 4) else (0, 0)
def kmany (op : Int) : Int × Int :=
  if op = 22 then (2, 3) else if op = 24 then (0, 20) else krange op
theorem kidRange_ok (op : Int) : fnL Try.prog T L0 53 [.c (.d (.v (.int .i64 (op))))] [] = some (.tup [.c (.d (.v (.int .i64 ((krange op).1)))), .c (.d (.v (.int .i64 ((krange op).2))))], []) := by
  refine nfW true (fun _ => W53.2) W53.1 Try.func53 rfl rfl fun c ht hr => ?_; simp only [okW, List.length_cons, List.length_nil, Nat.reduceAdd, firstReg, and_true] at c; (try simp (maxSteps := 4000000) (disch := first | assumption | omega) only [go_sem, *, resOnes, pairsOk, ↓bin_eqI, ↓bin_neI, Nat.reduceAdd, Nat.reduceSub, Nat.reduceMul, Nat.reduceBEq, Nat.reduceLeDiff, Nat.reduceLT, Nat.reduceDiv, Nat.reduceMod, drwK_some, disj, ordered, ancs]); repeat' ((first | with_reducible first | refine caK (fun hb => ?_) fun hb => ?_ | refine caG (fun hb => ?_) fun hb => ?_ | refine caP (fun hb => ?_) fun hb => ?_ | refine caH (fun hb => ?_) fun hb => ?_ | refine caQ (fun hb => ?_) fun hb => ?_ | refine ite_cases (fun hb => ?_) fun hb => ?_) <;> try simp (maxSteps := 4000000) (disch := first | assumption | omega) only [go_sem, *, resOnes, pairsOk, ↓bin_eqI, ↓bin_neI, Nat.reduceAdd, Nat.reduceSub, Nat.reduceMul, Nat.reduceBEq, Nat.reduceLeDiff, Nat.reduceLT, Nat.reduceDiv, Nat.reduceMod, drwK_some, disj, ordered, ancs])
  all_goals unfold krange
  all_goals (first | rfl | (simp [*]; done) | ((try simp only [eqI, decide_eq_true_eq, decide_eq_false_iff_not, Bool.not_eq_true', Bool.not_eq_false'] at *); simp [*]; done) | ((try simp only [eqI, decide_eq_true_eq, decide_eq_false_iff_not, Bool.not_eq_true', Bool.not_eq_false'] at *); (try simp [*]); grind) | ((try simp only [eqI, decide_eq_true_eq, decide_eq_false_iff_not, Bool.not_eq_true', Bool.not_eq_false'] at *); grind))
theorem l06Many_ok (op : Int) : fnL Try.prog T L0 45 [.c (.d (.v (.int .i64 (op))))] [] = some (.tup [.c (.d (.v (.int .i64 ((kmany op).1)))), .c (.d (.v (.int .i64 ((kmany op).2))))], []) := by
  refine nfW true (fun _ => W45.2) W45.1 Try.func45 rfl rfl fun c ht hr => ?_; simp only [okW, List.length_cons, List.length_nil, Nat.reduceAdd, firstReg, and_true] at c; (try simp (maxSteps := 4000000) (disch := first | assumption | omega) only [go_sem, *, resOnes, pairsOk, ↓bin_eqI, ↓bin_neI, Nat.reduceAdd, Nat.reduceSub, Nat.reduceMul, Nat.reduceBEq, Nat.reduceLeDiff, Nat.reduceLT, Nat.reduceDiv, Nat.reduceMod, drwK_some, disj, ordered, ancs]); repeat' ((first | with_reducible first | refine caK (fun hb => ?_) fun hb => ?_ | refine caG (fun hb => ?_) fun hb => ?_ | refine caP (fun hb => ?_) fun hb => ?_ | refine caH (fun hb => ?_) fun hb => ?_ | refine caQ (fun hb => ?_) fun hb => ?_ | refine ite_cases (fun hb => ?_) fun hb => ?_) <;> try simp (maxSteps := 4000000) (disch := first | assumption | omega) only [go_sem, *, resOnes, pairsOk, ↓bin_eqI, ↓bin_neI, Nat.reduceAdd, Nat.reduceSub, Nat.reduceMul, Nat.reduceBEq, Nat.reduceLeDiff, Nat.reduceLT, Nat.reduceDiv, Nat.reduceMod, drwK_some, disj, ordered, ancs])
  all_goals unfold kmany krange
  all_goals (first | rfl | (simp [*]; done) | ((try simp only [eqI, decide_eq_true_eq, decide_eq_false_iff_not, Bool.not_eq_true', Bool.not_eq_false'] at *); simp [*]; done) | ((try simp only [eqI, decide_eq_true_eq, decide_eq_false_iff_not, Bool.not_eq_true', Bool.not_eq_false'] at *); (try simp [*]); grind) | ((try simp only [eqI, decide_eq_true_eq, decide_eq_false_iff_not, Bool.not_eq_true', Bool.not_eq_false'] at *); grind))
theorem isExpr_ok (a : Int) : fnL Try.prog T L0 54 [.c (.d (.v (.int .i64 (a))))] [] = some (.one (.c (.d (.v (.bool (decide (1 ≤ a ∧ a ≤ 16)))))), []) := by
  refine nfW true (fun _ => W54.2) W54.1 Try.func54 rfl rfl fun c ht hr => ?_; simp only [okW, List.length_cons, List.length_nil, Nat.reduceAdd, firstReg, and_true] at c; simp +contextual (maxSteps := 4000000) (disch := first | assumption | omega) only [go_sem, within_ok, c, ht, hr, pairsOk, ↓bin_eql, ↓bin_neq, Nat.reduceAdd, Nat.reduceSub, Nat.reduceMul, Nat.reduceBEq, Nat.reduceLeDiff, ↓ite_not, ↓ite_tt, ↓ite_ff, ↓if_pos, ↓if_neg, stpO_ite, grdO_some, stpD_ite, grdD_some, pickO_bool, Nat.reduceLT, Nat.reduceDiv, Nat.reduceMod, condK_bool, regK_ite, drwK_some, drwK_ite]
theorem l06Ex_ok (a : Int) : fnL Try.prog T L0 30 [.c (.d (.v (.int .i64 (a))))] [] = some (.one (.c (.d (.v (.bool (decide (1 ≤ a ∧ a ≤ 16)))))), []) := by
  refine nfW true (fun _ => W30.2) W30.1 Try.func30 rfl rfl fun c ht hr => ?_; simp only [okW, List.length_cons, List.length_nil, Nat.reduceAdd, firstReg, and_true] at c; simp +contextual (maxSteps := 4000000) (disch := first | assumption | omega) only [go_sem, in_ok, c, ht, hr, pairsOk, ↓bin_eql, ↓bin_neq, Nat.reduceAdd, Nat.reduceSub, Nat.reduceMul, Nat.reduceBEq, Nat.reduceLeDiff, ↓ite_not, ↓ite_tt, ↓ite_ff, ↓if_pos, ↓if_neg, stpO_ite, grdO_some, stpD_ite, grdD_some, pickO_bool, Nat.reduceLT, Nat.reduceDiv, Nat.reduceMod, condK_bool, regK_ite, drwK_some, drwK_ite]
theorem isQuotable_ok (s : List UInt8) (hm : s.length ≤ maxLen) : fnL Try.prog T L0 49 [.c (.d (.v (.string (B (s)))))] [] = some (.one (.c (.d (.v (.bool (decide ((s.length : Int) ≤ 30) && !(s.any fun x => decide (x = 34) || decide (x = 10))))))), []) := by
  have hc := fun h => containsAny_ok s 34 10 h (by decide) (by decide)
  refine nfW true (fun _ => W49.2) W49.1 Try.func49 rfl rfl fun c ht hr => ?_; simp only [okW, List.length_cons, List.length_nil, Nat.reduceAdd, firstReg, and_true] at c; simp +contextual (maxSteps := 4000000) (disch := first | assumption | omega) only [go_sem, hc, c, ht, hr, pairsOk, ↓bin_eql, ↓bin_neq, Nat.reduceAdd, Nat.reduceSub, Nat.reduceMul, Nat.reduceBEq, Nat.reduceLeDiff, ↓ite_not, ↓ite_tt, ↓ite_ff, ↓if_pos, ↓if_neg, stpO_ite, grdO_some, stpD_ite, grdD_some, pickO_bool, Nat.reduceLT, Nat.reduceDiv, Nat.reduceMod, condK_bool, regK_ite, drwK_some, drwK_ite]
  clear hc
  grind
def numOK (s : List UInt8) : Bool := s.all (fun b => isFig b) && decide (1 ≤ (s.length : Int) ∧ (s.length : Int) ≤ 6)
def quoOK (s : List UInt8) : Bool := decide ((s.length : Int) ≤ 30) && !(s.any fun x => decide (x = 34) || decide (x = 10))
def nameOK (s : List UInt8) : Bool := (s.all (fun b => isLet b) && decide (1 ≤ (s.length : Int) ∧ (s.length : Int) ≤ 8)) && !decide (s ∈ words1)
def textOK (rd : List UInt8 → Bool) (x : GNode) : Bool :=
  if x.Op = 1 then numOK x.Text
  else if x.Op = 2 then quoOK x.Text
  else if x.Op = 3 ∨ x.Op = 4 ∨ x.Op = 18 ∨ x.Op = 19 ∨ x.Op = 20 ∨ x.Op = 21 ∨ x.Op = 25 then nameOK x.Text
  else if x.Op = 16 then rd x.Text && !(x.Text.any fun b => decide (b = 47) || decide (b = 10))
  else decide (x.Text = [])
theorem words_same (s : List UInt8) : decide (s ∈ words2) = decide (s ∈ words1) := by
  unfold words1 words2
  rw [decide_eq_decide]
  simp only [List.mem_cons, List.not_mem_nil, or_false]
  constructor <;> intro h <;> rcases h with h | h | h | h | h | h | h | h | h | h <;> simp [h]
theorem byte_eq (b c : UInt8) : decide ((b.toNat : Int) = (c.toNat : Int)) = decide (b = c) := by
  rw [decide_eq_decide]
  constructor
  · intro h; exact UInt8.toNat_inj.1 (by omega)
  · rintro rfl; rfl
theorem plain_any (s : List UInt8) (m : UInt8) : (s.all fun b => !decide ((b.toNat : Int) = (m.toNat : Int)) && !decide ((b.toNat : Int) = 10)) = !(s.any fun x => decide (x = m) || decide (x = 10)) := by
  have h10 : ∀ b : UInt8, decide ((b.toNat : Int) = 10) = decide (b = 10) := fun b => byte_eq b 10
  induction s with
  | nil => rfl
  | cons a s ih => rw [List.all_cons, List.any_cons, ih, byte_eq, h10]; simp
theorem textFits_ok (rd : List UInt8 → Bool) (x : GNode) (hR : ∀ s : List UInt8, s.length ≤ maxLen → ∃ d : D, fnL Try.prog T L0 51 [.c (.d (.v (.string (B (s)))))] [] = some (.tup [.agg [.d d], .c (.d (.v (.bool (rd s))))], [])) (h24 : ∀ s, rd s = true → s.length ≤ 24) (hm : x.Text.length ≤ maxLen) : fnL Try.prog T L0 35 [.agg (x.enc.map .d)] [] = some (.one (.c (.d (.v (.bool (textOK rd x))))), []) := by
  obtain ⟨d, hd⟩ := hR x.Text hm
  have hc := fun h : rd x.Text = true => containsAny_ok x.Text 47 10 (by have := h24 _ h; omega) (by decide) (by decide)
  clear hR h24
  refine nfW true (fun _ => W35.2) W35.1 Try.func35 rfl rfl fun c ht hr => ?_; simp only [okW, List.length_cons, List.length_nil, Nat.reduceAdd, firstReg, and_true] at c; (try simp (maxSteps := 4000000) (disch := first | assumption | omega) only [go_sem, *, GNode.enc, allFigures_ok, isQuotable_ok, isName_ok, hd, hc, resOnes, pairsOk, ↓bin_eqI, ↓bin_neI, Nat.reduceAdd, Nat.reduceSub, Nat.reduceMul, Nat.reduceBEq, Nat.reduceLeDiff, Nat.reduceLT, Nat.reduceDiv, Nat.reduceMod, drwK_some, disj, ordered, ancs]); repeat' ((first | with_reducible first | refine caK (fun hb => ?_) fun hb => ?_ | refine caG (fun hb => ?_) fun hb => ?_ | refine caP (fun hb => ?_) fun hb => ?_ | refine caH (fun hb => ?_) fun hb => ?_ | refine caQ (fun hb => ?_) fun hb => ?_ | refine ite_cases (fun hb => ?_) fun hb => ?_) <;> try simp (maxSteps := 4000000) (disch := first | assumption | omega) only [go_sem, *, GNode.enc, allFigures_ok, isQuotable_ok, isName_ok, hd, hc, resOnes, pairsOk, ↓bin_eqI, ↓bin_neI, Nat.reduceAdd, Nat.reduceSub, Nat.reduceMul, Nat.reduceBEq, Nat.reduceLeDiff, Nat.reduceLT, Nat.reduceDiv, Nat.reduceMod, drwK_some, disj, ordered, ancs])
  all_goals clear hd hc
  all_goals unfold textOK numOK quoOK nameOK
  all_goals (first | rfl | (simp [*]; done) | ((try simp only [eqI, decide_eq_true_eq, decide_eq_false_iff_not, Bool.not_eq_true', Bool.not_eq_false'] at *); simp [*]; done) | ((try simp only [eqI, decide_eq_true_eq, decide_eq_false_iff_not, Bool.not_eq_true', Bool.not_eq_false'] at *); (try simp [*]); grind) | ((try simp only [eqI, decide_eq_true_eq, decide_eq_false_iff_not, Bool.not_eq_true', Bool.not_eq_false'] at *); grind))
theorem l06Text_ok (rd : List UInt8 → Bool) (x : GNode) (hR : ∀ s : List UInt8, s.length ≤ maxLen → ∃ d : D, fnL Try.prog T L0 59 [.c (.d (.v (.string (B (s)))))] [] = some (.tup [.agg [.d d], .c (.d (.v (.bool (rd s))))], [])) (h24 : ∀ s, rd s = true → s.length ≤ 24) (hm : x.Text.length ≤ maxLen) : fnL Try.prog T L0 46 [.agg (x.enc.map .d)] [] = some (.one (.c (.d (.v (.bool (textOK rd x))))), []) := by
  obtain ⟨d, hd⟩ := hR x.Text hm
  have h1 := IsNum_ok x.Text hm
  have h2 := l06Plain_ok x.Text 30 34 hm
  have h3 := l06Name_ok x.Text hm
  have h4 := l06Plain_ok x.Text 24 47 hm
  have h5 := h24 x.Text
  rw [plain_any] at h2 h4
  rw [words_same] at h3
  have e1 : ((34 : UInt8).toNat : Int) = 34 := rfl
  have e2 : ((47 : UInt8).toNat : Int) = 47 := rfl
  rw [e1] at h2
  rw [e2] at h4
  clear hR h24
  refine nfW true (fun _ => W46.2) W46.1 Try.func46 rfl rfl fun c ht hr => ?_; simp only [okW, List.length_cons, List.length_nil, Nat.reduceAdd, firstReg, and_true] at c; (try simp (maxSteps := 4000000) (disch := first | assumption | omega) only [go_sem, *, GNode.enc, h1, h2, h3, h4, hd, resOnes, pairsOk, ↓bin_eqI, ↓bin_neI, Nat.reduceAdd, Nat.reduceSub, Nat.reduceMul, Nat.reduceBEq, Nat.reduceLeDiff, Nat.reduceLT, Nat.reduceDiv, Nat.reduceMod, drwK_some, disj, ordered, ancs]); repeat' ((first | with_reducible first | refine caK (fun hb => ?_) fun hb => ?_ | refine caG (fun hb => ?_) fun hb => ?_ | refine caP (fun hb => ?_) fun hb => ?_ | refine caH (fun hb => ?_) fun hb => ?_ | refine caQ (fun hb => ?_) fun hb => ?_ | refine ite_cases (fun hb => ?_) fun hb => ?_) <;> try simp (maxSteps := 4000000) (disch := first | assumption | omega) only [go_sem, *, GNode.enc, h1, h2, h3, h4, hd, resOnes, pairsOk, ↓bin_eqI, ↓bin_neI, Nat.reduceAdd, Nat.reduceSub, Nat.reduceMul, Nat.reduceBEq, Nat.reduceLeDiff, Nat.reduceLT, Nat.reduceDiv, Nat.reduceMod, drwK_some, disj, ordered, ancs])
  all_goals clear hd h1 h2 h3 h4
  all_goals unfold textOK numOK quoOK nameOK
  all_goals (first | rfl | (simp [*]; done) | ((try simp only [eqI, decide_eq_true_eq, decide_eq_false_iff_not, Bool.not_eq_true', Bool.not_eq_false'] at *); simp [*]; done) | ((try simp only [eqI, decide_eq_true_eq, decide_eq_false_iff_not, Bool.not_eq_true', Bool.not_eq_false'] at *); (try simp [*]); grind) | ((try simp only [eqI, decide_eq_true_eq, decide_eq_false_iff_not, Bool.not_eq_true', Bool.not_eq_false'] at *); grind))
end
end Go.Vsi
