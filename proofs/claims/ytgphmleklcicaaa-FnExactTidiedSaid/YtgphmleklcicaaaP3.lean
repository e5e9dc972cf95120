/- What the functions of the program, of the reference and of the law do (a part of it). -/
import Derived.Test.YtgphmleklcicaaaP2
namespace Go.Vsi
open Go.Proofs
noncomputable section
set_option maxRecDepth 100000
set_option maxHeartbeats 4000000
set_option linter.unusedSimpArgs false
set_option linter.unusedVariables false
attribute [local go_sem ↓] IX9
def rN (xs : List GNode) : List (List D) := xs.map GNode.enc
def rR (xs : List GRule) : List (List D) := xs.map GRule.enc
theorem rN_len (xs : List GNode) : (rN xs).length = xs.length := by simp [rN]
theorem rR_len (xs : List GRule) : (rR xs).length = xs.length := by simp [rR]
theorem rN_get (xs : List GNode) (i : Nat) (h : i < xs.length) : (rN xs)[i]? = some (GNode.enc xs[i]) := map_get xs _ i h
theorem rR_get (xs : List GRule) (i : Nat) (h : i < xs.length) : (rR xs)[i]? = some (GRule.enc xs[i]) := map_get xs _ i h
theorem encP (p : GProgram) : p.enc = [.sl 3 (rN p.Nodes), .sl 3 (rR p.Rules)] := rfl
def opAt (p : GProgram) (k : Int) : Int := match p.Nodes[k.toNat]? with | some x => x.Op | none => 0
theorem opAt_get (p : GProgram) (k : Int) (h : k.toNat < p.Nodes.length) : opAt p k = (p.Nodes[k.toNat]'h).Op := by
  unfold opAt
  rw [List.getElem?_eq_getElem h]
def isEx (op : Int) : Bool := decide (1 ≤ op ∧ op ≤ 16)
def kidOK (xop i op : Int) : Bool := if xop = 22 ∧ 0 < i then !(isEx op || decide (op = 22)) else if xop = 24 then !isEx op else isEx op
def kidsOK (p : GProgram) (xop : Int) : List Int → Int → Bool
  | [], _ => true
  | k :: ks, i => kidOK xop i (opAt p k) && kidsOK p xop ks (i + 1)
theorem kidsFit_loop (p : GProgram) (x : GNode) (lo hi : Int) (hx : x.Kids.length ≤ maxLen) (hk : ∀ k ∈ x.Kids, 0 ≤ k ∧ k.toNat < p.Nodes.length) : ∀ (n : Nat) (i : Int), 0 ≤ i → i + n = x.Kids.length →
    loopC Try.prog T (fnL Try.prog T L0) 36 (cq Try.f36 [0, 0, 1, 0, 1, 1]) ⟨[J, J, .one (.c (.ptr 0 0 0)), .one (.c (.ptr 1 0 0)), J, .one (.c (.d (.v (.int .i64 (lo))))), .one (.c (.d (.v (.int .i64 (hi))))), J, J, J, J, J, J, J, J, J, J, .one (.c (.d (.sl 1 (rI x.Kids)))), .one (.c (.d (.v (.int .i64 ((x.Kids.length : Int)))))), .one (.c (.d (.v (.int .i64 (i))))), J, J, J, J, J, J, J, J, J, J, J, J, J, J, J, J, J, J, J, J, J, J, J, J, J, J, J, J, J, J, J, J, J, J, J, J, J, J, J, J, J, J, J, J, J, J, J], hpOf [some (.var [.d (.sl 3 (rN p.Nodes)), .d (.sl 3 (rR p.Rules))]), some (.var (x.enc.map .d))], 2, 0⟩ =
      if kidsOK p x.Op (x.Kids.drop i.toNat) i = true then some (.exit 0, ⟨[J, J, J, .one (.c (.ptr 0 0 0)), J, .one (.c (.d (.v (.int .i64 (lo))))), .one (.c (.d (.v (.int .i64 (hi))))), J, J, J, J, J, J, J, J, J, J, J, J, J, J, J, J, J, J, J, J, J, J, J, J, J, J, J, J, J, J, J, J, J, J, J, J, J, J, J, J, J, J, J, J, J, J, J, J, J, J, J, J, J, J, J, J, J, J, J, J], hpOf [some (.var (x.enc.map .d))], 1, 0⟩) else some (.ret, ⟨[J, J, J, .one (.c (.ptr 0 0 0)), .one (.c (.d (.v (.bool (false))))), .one (.c (.d (.v (.int .i64 (lo))))), .one (.c (.d (.v (.int .i64 (hi))))), J, J, J, J, J, J, J, J, J, J, J, J, J, J, J, J, J, J, J, J, J, J, J, J, J, J, J, J, J, J, J, J, J, J, J, J, J, J, J, J, J, J, J, J, J, J, J, J, J, J, J, J, J, J, J, J, J, J, J, J], hpOf [some (.var (x.enc.map .d))], 1, 0⟩)
  | 0, i, h0, hn => by
    have : maxLen = 9223372036854775807 := rfl
    refine lpW true (fun _ => W36.2) W36.1 rfl fun c hl => ?_; simp only [subR, chi, okW, List.length_cons, List.length_nil, Nat.reduceAdd, firstReg, and_true] at c hl; (try simp (maxSteps := 4000000) (disch := first | assumption | omega) only [go_sem, *, rI, drop_end, kidsOK, GNode.enc, pairsOk, ↓bin_eqI, ↓bin_neI, Nat.reduceAdd, Nat.reduceSub, Nat.reduceMul, Nat.reduceBEq, Nat.reduceLeDiff, Nat.reduceLT, Nat.reduceDiv, Nat.reduceMod, drwK_some, disj, ordered, ancs]); repeat' ((first | with_reducible first | refine caK (fun hb => ?_) fun hb => ?_ | refine caG (fun hb => ?_) fun hb => ?_ | refine caP (fun hb => ?_) fun hb => ?_ | refine caH (fun hb => ?_) fun hb => ?_ | refine caQ (fun hb => ?_) fun hb => ?_ | refine ite_cases (fun hb => ?_) fun hb => ?_) <;> try simp (maxSteps := 4000000) (disch := first | assumption | omega) only [go_sem, *, rI, drop_end, kidsOK, GNode.enc, pairsOk, ↓bin_eqI, ↓bin_neI, Nat.reduceAdd, Nat.reduceSub, Nat.reduceMul, Nat.reduceBEq, Nat.reduceLeDiff, Nat.reduceLT, Nat.reduceDiv, Nat.reduceMod, drwK_some, disj, ordered, ancs])
  | n + 1, i, h0, hn => by
    have : maxLen = 9223372036854775807 := rfl
    have ih := kidsFit_loop p x lo hi hx hk n (i + 1) (by omega) (by omega)
    have hd := drop_at x.Kids i (by omega)
    obtain ⟨k1, k2⟩ := hk x.Kids[i.toNat] (List.getElem_mem _)
    have ho := opAt_get p x.Kids[i.toNat] k2
    rw [hd]
    clear hd hk
    simp only [rI, GNode.enc, List.map_cons, List.map_nil] at ih ⊢
    generalize hop : (p.Nodes[x.Kids[i.toNat].toNat]'k2).Op = op at ho
    simp only [kidsOK, ho]
    refine lpW true (fun _ => W36.2) W36.1 rfl fun c hl => ?_; simp only [subR, chi, okW, List.length_cons, List.length_nil, Nat.reduceAdd, firstReg, and_true] at c hl; (try simp (maxSteps := 4000000) (disch := first | assumption | omega) only [go_sem, *, rI, GNode.enc, rN_get, rN_len, isExpr_ok, pairsOk, ↓bin_eqI, ↓bin_neI, Nat.reduceAdd, Nat.reduceSub, Nat.reduceMul, Nat.reduceBEq, Nat.reduceLeDiff, Nat.reduceLT, Nat.reduceDiv, Nat.reduceMod, drwK_some, disj, ordered, ancs]); repeat' ((first | with_reducible first | refine caK (fun hb => ?_) fun hb => ?_ | refine caG (fun hb => ?_) fun hb => ?_ | refine caP (fun hb => ?_) fun hb => ?_ | refine caH (fun hb => ?_) fun hb => ?_ | refine caQ (fun hb => ?_) fun hb => ?_ | refine ite_cases (fun hb => ?_) fun hb => ?_) <;> try simp (maxSteps := 4000000) (disch := first | assumption | omega) only [go_sem, *, rI, GNode.enc, rN_get, rN_len, isExpr_ok, pairsOk, ↓bin_eqI, ↓bin_neI, Nat.reduceAdd, Nat.reduceSub, Nat.reduceMul, Nat.reduceBEq, Nat.reduceLeDiff, Nat.reduceLT, Nat.reduceDiv, Nat.reduceMod, drwK_some, disj, ordered, ancs])
    all_goals clear ih
    all_goals unfold kidOK isEx
    all_goals (first | rfl | (simp [*]; done) | ((try simp only [eqI, decide_eq_true_eq, decide_eq_false_iff_not, Bool.not_eq_true', Bool.not_eq_false'] at *); simp [*]; done) | ((try simp only [eqI, decide_eq_true_eq, decide_eq_false_iff_not, Bool.not_eq_true', Bool.not_eq_false'] at *); (try simp [*]); grind) | ((try simp only [eqI, decide_eq_true_eq, decide_eq_false_iff_not, Bool.not_eq_true', Bool.not_eq_false'] at *); grind))
def kidsFitB (p : GProgram) (x : GNode) : Bool := kidsOK p x.Op x.Kids 0 && decide ((kmany x.Op).1 ≤ (x.Kids.length : Int) ∧ (x.Kids.length : Int) ≤ (kmany x.Op).2)
theorem kidsFit_ok (p : GProgram) (x : GNode) (hx : x.Kids.length ≤ maxLen) (hk : ∀ k ∈ x.Kids, 0 ≤ k ∧ k.toNat < p.Nodes.length) : fnL Try.prog T L0 36 [.agg (p.enc.map .d), .agg (x.enc.map .d)] [] = some (.one (.c (.d (.v (.bool (kidsFitB p x))))), []) := by
  have L := kidsFit_loop p x (krange x.Op).1 (krange x.Op).2 hx hk x.Kids.length 0 (by omega) (by omega)
  simp only [rI, GNode.enc, List.map_cons, List.map_nil, Int.toNat_zero, List.drop_zero] at L
  unfold kidsFitB
  clear hk
  generalize kidsOK p x.Op x.Kids 0 = t at L ⊢
  generalize hkr : krange x.Op = kr at L
  have hk1 := kidRange_ok x.Op
  rw [hkr] at hk1
  cases t <;> simp only [if_true, if_false, Bool.false_eq_true] at L
  all_goals
    refine nfW true (fun _ => W36.2) W36.1 Try.func36 rfl rfl fun c ht hr => ?_; simp only [okW, List.length_cons, List.length_nil, Nat.reduceAdd, firstReg, and_true] at c; (try simp (maxSteps := 4000000) (disch := first | assumption | omega) only [go_sem, *, encP, GNode.enc, hk1, within_ok, L, resOnes, pairsOk, ↓bin_eqI, ↓bin_neI, Nat.reduceAdd, Nat.reduceSub, Nat.reduceMul, Nat.reduceBEq, Nat.reduceLeDiff, Nat.reduceLT, Nat.reduceDiv, Nat.reduceMod, drwK_some, disj, ordered, ancs]); repeat' ((first | with_reducible first | refine caK (fun hb => ?_) fun hb => ?_ | refine caG (fun hb => ?_) fun hb => ?_ | refine caP (fun hb => ?_) fun hb => ?_ | refine caH (fun hb => ?_) fun hb => ?_ | refine caQ (fun hb => ?_) fun hb => ?_ | refine ite_cases (fun hb => ?_) fun hb => ?_) <;> try simp (maxSteps := 4000000) (disch := first | assumption | omega) only [go_sem, *, encP, GNode.enc, hk1, within_ok, L, resOnes, pairsOk, ↓bin_eqI, ↓bin_neI, Nat.reduceAdd, Nat.reduceSub, Nat.reduceMul, Nat.reduceBEq, Nat.reduceLeDiff, Nat.reduceLT, Nat.reduceDiv, Nat.reduceMod, drwK_some, disj, ordered, ancs])
    all_goals clear L hk1
    all_goals unfold kmany
    all_goals (first | rfl | (simp [*]; done) | ((try simp only [eqI, decide_eq_true_eq, decide_eq_false_iff_not, Bool.not_eq_true', Bool.not_eq_false'] at *); simp [*]; done) | ((try simp only [eqI, decide_eq_true_eq, decide_eq_false_iff_not, Bool.not_eq_true', Bool.not_eq_false'] at *); (try simp [*]); grind) | ((try simp only [eqI, decide_eq_true_eq, decide_eq_false_iff_not, Bool.not_eq_true', Bool.not_eq_false'] at *); grind))
def ruleOK (p : GProgram) (r : GRule) : Bool :=
  decide (1 ≤ r.When ∧ r.When ≤ 3) && decide (0 ≤ r.Do ∧ r.Do ≤ (p.Nodes.length : Int) - 1) && decide (opAt p r.Do = 24) &&
    (decide (r.If = -1) || (decide (r.When = 2) && decide (0 ≤ r.If ∧ r.If ≤ (p.Nodes.length : Int) - 1) && isEx (opAt p r.If)))
theorem ruleFits_ok (p : GProgram) (r : GRule) (hn : p.Nodes.length ≤ maxLen) : fnL Try.prog T L0 37 [.agg (p.enc.map .d), .agg (r.enc.map .d)] [] = some (.one (.c (.d (.v (.bool (ruleOK p r))))), []) := by
  have : maxLen = 9223372036854775807 := rfl
  refine nfW true (fun _ => W37.2) W37.1 Try.func37 rfl rfl fun c ht hr => ?_; simp only [okW, List.length_cons, List.length_nil, Nat.reduceAdd, firstReg, and_true] at c; (try simp (maxSteps := 4000000) (disch := first | assumption | omega) only [go_sem, *, encP, GRule.enc, GNode.enc, rN_get, rN_len, within_ok, isExpr_ok, pairsOk, ↓bin_eqI, ↓bin_neI, Nat.reduceAdd, Nat.reduceSub, Nat.reduceMul, Nat.reduceBEq, Nat.reduceLeDiff, Nat.reduceLT, Nat.reduceDiv, Nat.reduceMod, drwK_some, disj, ordered, ancs]); repeat' ((first | with_reducible first | refine caK (fun hb => ?_) fun hb => ?_ | refine caG (fun hb => ?_) fun hb => ?_ | refine caP (fun hb => ?_) fun hb => ?_ | refine caH (fun hb => ?_) fun hb => ?_ | refine caQ (fun hb => ?_) fun hb => ?_ | refine ite_cases (fun hb => ?_) fun hb => ?_) <;> try simp (maxSteps := 4000000) (disch := first | assumption | omega) only [go_sem, *, encP, GRule.enc, GNode.enc, rN_get, rN_len, within_ok, isExpr_ok, pairsOk, ↓bin_eqI, ↓bin_neI, Nat.reduceAdd, Nat.reduceSub, Nat.reduceMul, Nat.reduceBEq, Nat.reduceLeDiff, Nat.reduceLT, Nat.reduceDiv, Nat.reduceMod, drwK_some, disj, ordered, ancs])
  all_goals unfold ruleOK isEx
  all_goals try rw [opAt_get p r.Do (by omega)]
  all_goals try rw [opAt_get p r.If (by omega)]
  all_goals (first | rfl | (simp [*]; done) | ((try simp only [eqI, decide_eq_true_eq, decide_eq_false_iff_not, Bool.not_eq_true', Bool.not_eq_false'] at *); simp [*]; done) | ((try simp only [eqI, decide_eq_true_eq, decide_eq_false_iff_not, Bool.not_eq_true', Bool.not_eq_false'] at *); (try simp [*]); grind) | ((try simp only [eqI, decide_eq_true_eq, decide_eq_false_iff_not, Bool.not_eq_true', Bool.not_eq_false'] at *); grind))
def inR (n k : Int) : Bool := decide (0 ≤ k ∧ k ≤ n - 1)
def kidsBoth (p : GProgram) (xop n : Int) : List Int → Int → Bool
  | [], _ => true
  | k :: ks, i => (inR n k && kidOK xop i (opAt p k)) && kidsBoth p xop n ks (i + 1)
theorem kidsBoth_eq (p : GProgram) (xop n : Int) : ∀ (ks : List Int) (i : Int), kidsBoth p xop n ks i = (ks.all (fun k => decide (0 ≤ k ∧ k ≤ n - 1)) && kidsOK p xop ks i)
  | [], _ => rfl
  | k :: ks, i => by
    rw [kidsBoth, kidsBoth_eq p xop n ks (i + 1), List.all_cons, kidsOK, inR]
    cases decide (0 ≤ k ∧ k ≤ n - 1) <;> cases kidOK xop i (opAt p k) <;> simp
theorem encN (x : GNode) : x.enc.map S.d = [.d (.v (.int .i64 x.Op)), .d (.v (.string (B x.Text))), .d (.sl 1 (rI x.Kids))] := rfl
theorem l06Node_loop (p : GProgram) (x : GNode) (n : Int) (hn : 0 ≤ n ∧ n < p.Nodes.length) (hN : p.Nodes.length ≤ maxLen) (hx : x.Kids.length ≤ maxLen) : ∀ (m : Nat) (i : Int), 0 ≤ i → i + m = x.Kids.length →
    loopC Try.prog T (fnL Try.prog T L0) 28 (cq Try.f28 [0, 0, 1, 0, 1, 1, 1, 1]) ⟨[J, .one (.c (.d (.v (.int .i64 (n))))), .one (.c (.ptr 0 0 0)), J, J, .one (.c (.ptr 1 0 0)), J, J, .one (.c (.d (.v (.int .i64 (i))))), J, J, J, J, J, J, J, J, J, J, J, J, J, J, J, J, J, J, J, J, J, J, J, J, J, J, J, J, J, J, J, J, J, J, J, J, J, J, J, J, J, J, J, J, J, J, J, J, J, J, J, J, J, J, J, J, J, J, J, J, J, J, J, J, J, J, J, J, J, J, J, J, J, J, J, J, J, J, J, J, J, J], hpOf [some (.var [.d (.sl 3 (rN p.Nodes)), .d (.sl 3 (rR p.Rules))]), some (.var (x.enc.map .d))], 2, 0⟩ =
      if kidsBoth p x.Op n (x.Kids.drop i.toNat) i = true then some (.exit 0, ⟨[J, J, J, J, J, J, J, J, J, J, J, J, J, J, J, J, J, J, J, J, J, J, J, J, J, J, J, J, J, J, J, J, J, J, J, J, J, J, J, J, J, J, J, J, J, J, J, J, J, J, J, J, J, J, J, J, J, J, J, J, J, J, J, J, J, J, J, J, J, J, J, J, J, J, J, J, J, J, J, J, J, J, J, J, J, J, J, J, J, J, J], hpOf [], 0, 0⟩) else some (.ret, ⟨[J, J, J, J, .one (.c (.d (.v (.bool (false))))), J, J, J, J, J, J, J, J, J, J, J, J, J, J, J, J, J, J, J, J, J, J, J, J, J, J, J, J, J, J, J, J, J, J, J, J, J, J, J, J, J, J, J, J, J, J, J, J, J, J, J, J, J, J, J, J, J, J, J, J, J, J, J, J, J, J, J, J, J, J, J, J, J, J, J, J, J, J, J, J, J, J, J, J, J, J], hpOf [], 0, 0⟩)
  | 0, i, h0, hm => by
    have : maxLen = 9223372036854775807 := rfl
    simp only [encN, rI]
    refine lpW true (fun _ => W28.2) W28.1 rfl fun c hl => ?_; simp only [subR, chi, okW, List.length_cons, List.length_nil, Nat.reduceAdd, firstReg, and_true] at c hl; (try simp (maxSteps := 4000000) (disch := first | assumption | omega) only [go_sem, *, drop_end, kidsBoth, pairsOk, ↓bin_eqI, ↓bin_neI, Nat.reduceAdd, Nat.reduceSub, Nat.reduceMul, Nat.reduceBEq, Nat.reduceLeDiff, Nat.reduceLT, Nat.reduceDiv, Nat.reduceMod, drwK_some, disj, ordered, ancs]); repeat' ((first | with_reducible first | refine caK (fun hb => ?_) fun hb => ?_ | refine caG (fun hb => ?_) fun hb => ?_ | refine caP (fun hb => ?_) fun hb => ?_ | refine caH (fun hb => ?_) fun hb => ?_ | refine caQ (fun hb => ?_) fun hb => ?_ | refine ite_cases (fun hb => ?_) fun hb => ?_) <;> try simp (maxSteps := 4000000) (disch := first | assumption | omega) only [go_sem, *, drop_end, kidsBoth, pairsOk, ↓bin_eqI, ↓bin_neI, Nat.reduceAdd, Nat.reduceSub, Nat.reduceMul, Nat.reduceBEq, Nat.reduceLeDiff, Nat.reduceLT, Nat.reduceDiv, Nat.reduceMod, drwK_some, disj, ordered, ancs])
  | m + 1, i, h0, hm => by
    have : maxLen = 9223372036854775807 := rfl
    have ih := l06Node_loop p x n hn hN hx m (i + 1) (by omega) (by omega)
    have hd := drop_at x.Kids i (by omega)
    rw [hd]
    clear hd
    have ho := opAt_get p x.Kids[i.toNat]
    by_cases hr : 0 ≤ x.Kids[i.toNat] ∧ x.Kids[i.toNat] ≤ n - 1
    · have ho2 := (opAt_get p x.Kids[i.toNat] (by omega)).symm
      clear ho
      simp only [encN, rI] at ih ⊢
      simp only [kidsBoth, inR, decT hr, Bool.true_and]
      generalize hop : opAt p x.Kids[i.toNat] = op at ho2 ⊢
      refine lpW true (fun _ => W28.2) W28.1 rfl fun c hl => ?_; simp only [subR, chi, okW, List.length_cons, List.length_nil, Nat.reduceAdd, firstReg, and_true] at c hl; (try simp (maxSteps := 4000000) (disch := first | assumption | omega) only [go_sem, *, encN, GNode.enc, rN_get, rN_len, l06Ex_ok, in_ok, ho2, pairsOk, ↓bin_eqI, ↓bin_neI, Nat.reduceAdd, Nat.reduceSub, Nat.reduceMul, Nat.reduceBEq, Nat.reduceLeDiff, Nat.reduceLT, Nat.reduceDiv, Nat.reduceMod, drwK_some, disj, ordered, ancs]); repeat' ((first | with_reducible first | refine caK (fun hb => ?_) fun hb => ?_ | refine caG (fun hb => ?_) fun hb => ?_ | refine caP (fun hb => ?_) fun hb => ?_ | refine caH (fun hb => ?_) fun hb => ?_ | refine caQ (fun hb => ?_) fun hb => ?_ | refine ite_cases (fun hb => ?_) fun hb => ?_) <;> try simp (maxSteps := 4000000) (disch := first | assumption | omega) only [go_sem, *, encN, GNode.enc, rN_get, rN_len, l06Ex_ok, in_ok, ho2, pairsOk, ↓bin_eqI, ↓bin_neI, Nat.reduceAdd, Nat.reduceSub, Nat.reduceMul, Nat.reduceBEq, Nat.reduceLeDiff, Nat.reduceLT, Nat.reduceDiv, Nat.reduceMod, drwK_some, disj, ordered, ancs])
      all_goals clear ih
      all_goals unfold kidOK isEx
      all_goals (first | rfl | (simp [*]; done) | ((try simp only [eqI, decide_eq_true_eq, decide_eq_false_iff_not, Bool.not_eq_true', Bool.not_eq_false'] at *); simp [*]; done) | ((try simp only [eqI, decide_eq_true_eq, decide_eq_false_iff_not, Bool.not_eq_true', Bool.not_eq_false'] at *); (try simp [*]); grind) | ((try simp only [eqI, decide_eq_true_eq, decide_eq_false_iff_not, Bool.not_eq_true', Bool.not_eq_false'] at *); grind))
    · clear ho
      simp only [encN, rI] at ih ⊢
      simp only [kidsBoth, inR, decF hr, Bool.false_and, Bool.false_eq_true, if_false]
      clear ih
      refine lpW true (fun _ => W28.2) W28.1 rfl fun c hl => ?_; simp only [subR, chi, okW, List.length_cons, List.length_nil, Nat.reduceAdd, firstReg, and_true] at c hl; (try simp (maxSteps := 4000000) (disch := first | assumption | omega) only [go_sem, *, encN, GNode.enc, rN_get, rN_len, l06Ex_ok, in_ok, pairsOk, ↓bin_eqI, ↓bin_neI, Nat.reduceAdd, Nat.reduceSub, Nat.reduceMul, Nat.reduceBEq, Nat.reduceLeDiff, Nat.reduceLT, Nat.reduceDiv, Nat.reduceMod, drwK_some, disj, ordered, ancs]); repeat' ((first | with_reducible first | refine caK (fun hb => ?_) fun hb => ?_ | refine caG (fun hb => ?_) fun hb => ?_ | refine caP (fun hb => ?_) fun hb => ?_ | refine caH (fun hb => ?_) fun hb => ?_ | refine caQ (fun hb => ?_) fun hb => ?_ | refine ite_cases (fun hb => ?_) fun hb => ?_) <;> try simp (maxSteps := 4000000) (disch := first | assumption | omega) only [go_sem, *, encN, GNode.enc, rN_get, rN_len, l06Ex_ok, in_ok, pairsOk, ↓bin_eqI, ↓bin_neI, Nat.reduceAdd, Nat.reduceSub, Nat.reduceMul, Nat.reduceBEq, Nat.reduceLeDiff, Nat.reduceLT, Nat.reduceDiv, Nat.reduceMod, drwK_some, disj, ordered, ancs])
def nodeOK (rd : List UInt8 → Bool) (p : GProgram) (x : GNode) (n : Int) : Bool :=
  decide (1 ≤ x.Op ∧ x.Op ≤ 25) && x.Kids.all (fun k => decide (0 ≤ k ∧ k ≤ n - 1)) && textOK rd x && kidsFitB p x
/-- What is told of a reader of patterns. -/
def Reads (f : FuncId) (rd : List UInt8 → Bool) : Prop := ∀ s : List UInt8, s.length ≤ maxLen → ∃ d : D, fnL Try.prog T L0 f [.c (.d (.v (.string (B (s)))))] [] = some (.tup [.agg [.d d], .c (.d (.v (.bool (rd s))))], [])
theorem l06Node_ok (rd : List UInt8 → Bool) (hR : Reads 59 rd) (h24 : ∀ s, rd s = true → s.length ≤ 24) (p : GProgram) (hN : p.Nodes.length ≤ maxLen) (n : Int) (hn : 0 ≤ n ∧ n < p.Nodes.length) (x : GNode) (hx : p.Nodes[n.toNat]? = some x) (ht : x.Text.length ≤ maxLen) (hk : x.Kids.length ≤ maxLen) :
    fnL Try.prog T L0 28 [.agg (p.enc.map .d), .c (.d (.v (.int .i64 (n))))] [] = some (.one (.c (.d (.v (.bool (nodeOK rd p x n))))), []) := by
  have hT := l06Text_ok rd x hR h24 ht
  have L := l06Node_loop p x n hn hN hk x.Kids.length 0 (by omega) (by omega)
  have hg : (rN p.Nodes)[n.toNat]? = some (GNode.enc x) := by
    rw [rN_get _ _ (by omega)]
    rw [List.getElem?_eq_getElem (by omega)] at hx
    exact congrArg some (congrArg GNode.enc (Option.some.inj hx))
  have hmany := l06Many_ok x.Op
  rw [kidsBoth_eq, Int.toNat_zero, List.drop_zero] at L
  simp only [encN, rI] at hT L
  clear hR h24 hx
  unfold nodeOK kidsFitB
  generalize textOK rd x = t0 at hT ⊢
  generalize kidsOK p x.Op x.Kids 0 = t1 at L ⊢
  generalize (x.Kids.all fun k => decide (0 ≤ k ∧ k ≤ n - 1)) = t2 at L ⊢
  generalize kmany x.Op = km at hmany ⊢
  have : maxLen = 9223372036854775807 := rfl
  cases h12 : (t2 && t1) <;> simp only [h12, if_true, if_false, Bool.false_eq_true] at L
  all_goals
    refine nfW true (fun _ => W28.2) W28.1 Try.func28 rfl rfl fun c ht hr => ?_; simp only [okW, List.length_cons, List.length_nil, Nat.reduceAdd, firstReg, and_true] at c; (try simp (maxSteps := 4000000) (disch := first | assumption | omega) only [go_sem, *, encP, GNode.enc, hg, hT, hmany, in_ok, L, resOnes, pairsOk, ↓bin_eqI, ↓bin_neI, Nat.reduceAdd, Nat.reduceSub, Nat.reduceMul, Nat.reduceBEq, Nat.reduceLeDiff, Nat.reduceLT, Nat.reduceDiv, Nat.reduceMod, drwK_some, disj, ordered, ancs]); repeat' ((first | with_reducible first | refine caK (fun hb => ?_) fun hb => ?_ | refine caG (fun hb => ?_) fun hb => ?_ | refine caP (fun hb => ?_) fun hb => ?_ | refine caH (fun hb => ?_) fun hb => ?_ | refine caQ (fun hb => ?_) fun hb => ?_ | refine ite_cases (fun hb => ?_) fun hb => ?_) <;> try simp (maxSteps := 4000000) (disch := first | assumption | omega) only [go_sem, *, encP, GNode.enc, hg, hT, hmany, in_ok, L, resOnes, pairsOk, ↓bin_eqI, ↓bin_neI, Nat.reduceAdd, Nat.reduceSub, Nat.reduceMul, Nat.reduceBEq, Nat.reduceLeDiff, Nat.reduceLT, Nat.reduceDiv, Nat.reduceMod, drwK_some, disj, ordered, ancs])
    all_goals clear L hmany hT hg
    all_goals (first | rfl | (simp [*]; done) | ((try simp only [eqI, decide_eq_true_eq, decide_eq_false_iff_not, Bool.not_eq_true', Bool.not_eq_false'] at *); simp [*]; done) | ((try simp only [eqI, decide_eq_true_eq, decide_eq_false_iff_not, Bool.not_eq_true', Bool.not_eq_false'] at *); (try simp [*]); grind) | ((try simp only [eqI, decide_eq_true_eq, decide_eq_false_iff_not, Bool.not_eq_true', Bool.not_eq_false'] at *); grind))
def nodesOK (rd : List UInt8 → Bool) (p : GProgram) : List GNode → Int → Bool
  | [], _ => true
  | x :: xs, i => nodeOK rd p x i && nodesOK rd p xs (i + 1)
def progOK (rd : List UInt8 → Bool) (p : GProgram) : Bool := nodesOK rd p p.Nodes 0 && p.Rules.all (ruleOK p) && decide ((p.Nodes.length : Int) ≤ 200) && decide ((p.Rules.length : Int) ≤ 12)
theorem progOk_loop1 (rd : List UInt8 → Bool) (hR : Reads 51 rd) (h24 : ∀ s, rd s = true → s.length ≤ 24) (p : GProgram) (hp : p.ok) : ∀ (m : Nat) (i : Int), 0 ≤ i → i + m = p.Nodes.length →
    loopC Try.prog T (fnL Try.prog T L0) 18 (cq Try.f18 [0, 0, 1, 0, 1]) ⟨[J, .one (.c (.ptr 0 0 0)), J, J, J, J, J, J, .one (.c (.d (.sl 3 (rN p.Nodes)))), .one (.c (.d (.v (.int .i64 ((p.Nodes.length : Int)))))), .one (.c (.d (.v (.int .i64 (i))))), J, J, J, J, J, J, J, J, J, J, J, J, J, J, J, J, J, J, J, J, J, J, J, J, J, J, J, J, J, J, J, J, J, J, J, J, J, J, J, J, J, J, J, J, J, J, J, J, J], hpOf [some (.var [.d (.sl 3 (rN p.Nodes)), .d (.sl 3 (rR p.Rules))])], 1, 0⟩ =
      if nodesOK rd p (p.Nodes.drop i.toNat) i = true then some (.exit 0, ⟨[J, .one (.c (.ptr 0 0 0)), J, J, J, J, J, J, J, J, J, J, J, J, J, J, J, J, J, J, J, J, J, J, J, J, J, J, J, J, J, J, J, J, J, J, J, J, J, J, J, J, J, J, J, J, J, J, J, J, J, J, J, J, J, J, J, J, J, J], hpOf [some (.var [.d (.sl 3 (rN p.Nodes)), .d (.sl 3 (rR p.Rules))])], 1, 0⟩) else some (.ret, ⟨[J, .one (.c (.ptr 0 0 0)), .one (.c (.d (.v (.bool (false))))), J, J, J, J, J, J, J, J, J, J, J, J, J, J, J, J, J, J, J, J, J, J, J, J, J, J, J, J, J, J, J, J, J, J, J, J, J, J, J, J, J, J, J, J, J, J, J, J, J, J, J, J, J, J, J, J, J], hpOf [some (.var [.d (.sl 3 (rN p.Nodes)), .d (.sl 3 (rR p.Rules))])], 1, 0⟩)
  | 0, i, h0, hm => by
    have : maxLen = 9223372036854775807 := rfl
    clear hR h24 hp
    refine lpW true (fun _ => W18.2) W18.1 rfl fun c hl => ?_; simp only [subR, chi, okW, List.length_cons, List.length_nil, Nat.reduceAdd, firstReg, and_true] at c hl; (try simp (maxSteps := 4000000) (disch := first | assumption | omega) only [go_sem, *, drop_end, nodesOK, pairsOk, ↓bin_eqI, ↓bin_neI, Nat.reduceAdd, Nat.reduceSub, Nat.reduceMul, Nat.reduceBEq, Nat.reduceLeDiff, Nat.reduceLT, Nat.reduceDiv, Nat.reduceMod, drwK_some, disj, ordered, ancs]); repeat' ((first | with_reducible first | refine caK (fun hb => ?_) fun hb => ?_ | refine caG (fun hb => ?_) fun hb => ?_ | refine caP (fun hb => ?_) fun hb => ?_ | refine caH (fun hb => ?_) fun hb => ?_ | refine caQ (fun hb => ?_) fun hb => ?_ | refine ite_cases (fun hb => ?_) fun hb => ?_) <;> try simp (maxSteps := 4000000) (disch := first | assumption | omega) only [go_sem, *, drop_end, nodesOK, pairsOk, ↓bin_eqI, ↓bin_neI, Nat.reduceAdd, Nat.reduceSub, Nat.reduceMul, Nat.reduceBEq, Nat.reduceLeDiff, Nat.reduceLT, Nat.reduceDiv, Nat.reduceMod, drwK_some, disj, ordered, ancs])
  | m + 1, i, h0, hm => by
    have : maxLen = 9223372036854775807 := rfl
    have ih := progOk_loop1 rd hR h24 p hp m (i + 1) (by omega) (by omega)
    have hl : i.toNat < p.Nodes.length := by omega
    have hd := drop_at p.Nodes i ⟨h0, hl⟩
    rw [hd]
    clear hd
    have hg := rN_get p.Nodes i.toNat hl
    obtain ⟨⟨hN, hpx⟩, _⟩ := hp
    obtain ⟨_, ht, hk, _⟩ := hpx p.Nodes[i.toNat] (List.getElem_mem _)
    clear hpx
    generalize p.Nodes[i.toNat] = x at hg ht hk ⊢
    have hT := textFits_ok rd x hR h24 ht
    have hA := kidsAhead_ok x.Kids i hk (by omega)
    have hF : (x.Kids.all fun k => decide (0 ≤ k ∧ k ≤ i - 1)) = true → _ := fun h => kidsFit_ok p x hk (fun k hk' => by have := of_decide_eq_true (List.all_eq_true.1 h k hk'); omega)
    simp only [encN, encP, rI, List.map_cons, List.map_nil] at hT hA hF
    clear hR h24
    rw [nodesOK, nodeOK]
    generalize textOK rd x = t0 at hT ⊢
    generalize kidsFitB p x = t1 at hF ⊢
    generalize (x.Kids.all fun k => decide (0 ≤ k ∧ k ≤ i - 1)) = t2 at hA hF ⊢
    refine lpW true (fun _ => W18.2) W18.1 rfl fun c hl => ?_; simp only [subR, chi, okW, List.length_cons, List.length_nil, Nat.reduceAdd, firstReg, and_true] at c hl; (try simp (maxSteps := 4000000) (disch := first | assumption | omega) only [go_sem, *, GNode.enc, hg, hT, hA, hF, within_ok, pairsOk, ↓bin_eqI, ↓bin_neI, Nat.reduceAdd, Nat.reduceSub, Nat.reduceMul, Nat.reduceBEq, Nat.reduceLeDiff, Nat.reduceLT, Nat.reduceDiv, Nat.reduceMod, drwK_some, disj, ordered, ancs]); repeat' ((first | with_reducible first | refine caK (fun hb => ?_) fun hb => ?_ | refine caG (fun hb => ?_) fun hb => ?_ | refine caP (fun hb => ?_) fun hb => ?_ | refine caH (fun hb => ?_) fun hb => ?_ | refine caQ (fun hb => ?_) fun hb => ?_ | refine ite_cases (fun hb => ?_) fun hb => ?_) <;> try simp (maxSteps := 4000000) (disch := first | assumption | omega) only [go_sem, *, GNode.enc, hg, hT, hA, hF, within_ok, pairsOk, ↓bin_eqI, ↓bin_neI, Nat.reduceAdd, Nat.reduceSub, Nat.reduceMul, Nat.reduceBEq, Nat.reduceLeDiff, Nat.reduceLT, Nat.reduceDiv, Nat.reduceMod, drwK_some, disj, ordered, ancs])
    all_goals clear ih hT hA hF hg
    all_goals (first | rfl | (simp [*]; done) | ((try simp only [eqI, decide_eq_true_eq, decide_eq_false_iff_not, Bool.not_eq_true', Bool.not_eq_false'] at *); simp [*]; done) | ((try simp only [eqI, decide_eq_true_eq, decide_eq_false_iff_not, Bool.not_eq_true', Bool.not_eq_false'] at *); (try simp [*]); grind) | ((try simp only [eqI, decide_eq_true_eq, decide_eq_false_iff_not, Bool.not_eq_true', Bool.not_eq_false'] at *); grind))
end
end Go.Vsi
