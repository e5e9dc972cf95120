/- What the functions of the program, of the reference and of the law do (a part of it). -/
import Derived.Test.YtgphmleklcicaaaP3
namespace Go.Vsi
open Go.Proofs
noncomputable section
set_option maxRecDepth 100000
set_option maxHeartbeats 4000000
set_option linter.unusedSimpArgs false
set_option linter.unusedVariables false
attribute [local go_sem ↓] IX9
theorem encR (x : GRule) : x.enc.map S.d = [.d (.v (.int .i64 x.When)), .d (.v (.int .i64 x.If)), .d (.v (.int .i64 x.Do))] := rfl
theorem progOk_loop2 (p : GProgram) (hp : p.ok) : ∀ (m : Nat) (i : Int), 0 ≤ i → i + m = p.Rules.length →
    loopC Try.prog T (fnL Try.prog T L0) 18 (cq Try.f18 [0, 0, 1, 0, 1, 1]) ⟨[J, .one (.c (.ptr 0 0 0)), J, J, J, J, J, J, J, J, J, J, J, J, J, J, J, J, J, J, J, J, J, J, J, J, J, J, J, J, J, J, J, J, J, J, J, J, J, .one (.c (.d (.sl 3 (rR p.Rules)))), .one (.c (.d (.v (.int .i64 ((p.Rules.length : Int)))))), .one (.c (.d (.v (.int .i64 (i))))), J, J, J, J, J, J, J, J, J, J, J, J, J, J, J, J, J, J], hpOf [some (.var [.d (.sl 3 (rN p.Nodes)), .d (.sl 3 (rR p.Rules))])], 1, 0⟩ =
      if (p.Rules.drop i.toNat).all (ruleOK p) = true then some (.exit 2, ⟨[J, .one (.c (.ptr 0 0 0)), J, J, J, J, J, J, J, J, J, J, J, J, J, J, J, J, J, J, J, J, J, J, J, J, J, J, J, J, J, J, J, J, J, J, J, J, J, J, J, J, J, J, J, J, J, J, J, J, J, J, J, J, J, J, J, J, J, J], hpOf [some (.var [.d (.sl 3 (rN p.Nodes)), .d (.sl 3 (rR p.Rules))])], 1, 0⟩) else some (.ret, ⟨[J, .one (.c (.ptr 0 0 0)), .one (.c (.d (.v (.bool (false))))), J, J, J, J, J, J, J, J, J, J, J, J, J, J, J, J, J, J, J, J, J, J, J, J, J, J, J, J, J, J, J, J, J, J, J, J, J, J, J, J, J, J, J, J, J, J, J, J, J, J, J, J, J, J, J, J, J], hpOf [some (.var [.d (.sl 3 (rN p.Nodes)), .d (.sl 3 (rR p.Rules))])], 1, 0⟩)
  | 0, i, h0, hm => by
    have : maxLen = 9223372036854775807 := rfl
    clear hp
    refine lpW true (fun _ => W18.2) W18.1 rfl fun c hl => ?_; simp only [subR, chi, okW, List.length_cons, List.length_nil, Nat.reduceAdd, firstReg, and_true] at c hl; (try simp (maxSteps := 4000000) (disch := first | assumption | omega) only [go_sem, *, drop_end, List.all_nil, pairsOk, ↓bin_eqI, ↓bin_neI, Nat.reduceAdd, Nat.reduceSub, Nat.reduceMul, Nat.reduceBEq, Nat.reduceLeDiff, Nat.reduceLT, Nat.reduceDiv, Nat.reduceMod, drwK_some, disj, ordered, ancs]); repeat' ((first | with_reducible first | refine caK (fun hb => ?_) fun hb => ?_ | refine caG (fun hb => ?_) fun hb => ?_ | refine caP (fun hb => ?_) fun hb => ?_ | refine caH (fun hb => ?_) fun hb => ?_ | refine caQ (fun hb => ?_) fun hb => ?_ | refine ite_cases (fun hb => ?_) fun hb => ?_) <;> try simp (maxSteps := 4000000) (disch := first | assumption | omega) only [go_sem, *, drop_end, List.all_nil, pairsOk, ↓bin_eqI, ↓bin_neI, Nat.reduceAdd, Nat.reduceSub, Nat.reduceMul, Nat.reduceBEq, Nat.reduceLeDiff, Nat.reduceLT, Nat.reduceDiv, Nat.reduceMod, drwK_some, disj, ordered, ancs])
  | m + 1, i, h0, hm => by
    have : maxLen = 9223372036854775807 := rfl
    have ih := progOk_loop2 p hp m (i + 1) (by omega) (by omega)
    have hl : i.toNat < p.Rules.length := by omega
    have hd := drop_at p.Rules i ⟨h0, hl⟩
    rw [hd]
    clear hd
    have hg := rR_get p.Rules i.toNat hl
    obtain ⟨⟨hN, _⟩, hR, _⟩ := hp
    generalize p.Rules[i.toNat] = x at hg ⊢
    have hF := ruleFits_ok p x hN
    simp only [encP, encR, List.map_cons, List.map_nil] at hF
    rw [List.all_cons]
    generalize ruleOK p x = t0 at hF ⊢
    refine lpW true (fun _ => W18.2) W18.1 rfl fun c hl => ?_; simp only [subR, chi, okW, List.length_cons, List.length_nil, Nat.reduceAdd, firstReg, and_true] at c hl; (try simp (maxSteps := 4000000) (disch := first | assumption | omega) only [go_sem, *, GRule.enc, hg, hF, pairsOk, ↓bin_eqI, ↓bin_neI, Nat.reduceAdd, Nat.reduceSub, Nat.reduceMul, Nat.reduceBEq, Nat.reduceLeDiff, Nat.reduceLT, Nat.reduceDiv, Nat.reduceMod, drwK_some, disj, ordered, ancs]); repeat' ((first | with_reducible first | refine caK (fun hb => ?_) fun hb => ?_ | refine caG (fun hb => ?_) fun hb => ?_ | refine caP (fun hb => ?_) fun hb => ?_ | refine caH (fun hb => ?_) fun hb => ?_ | refine caQ (fun hb => ?_) fun hb => ?_ | refine ite_cases (fun hb => ?_) fun hb => ?_) <;> try simp (maxSteps := 4000000) (disch := first | assumption | omega) only [go_sem, *, GRule.enc, hg, hF, pairsOk, ↓bin_eqI, ↓bin_neI, Nat.reduceAdd, Nat.reduceSub, Nat.reduceMul, Nat.reduceBEq, Nat.reduceLeDiff, Nat.reduceLT, Nat.reduceDiv, Nat.reduceMod, drwK_some, disj, ordered, ancs])
    all_goals clear ih hF hg
    all_goals (first | rfl | (simp [*]; done) | ((try simp only [eqI, decide_eq_true_eq, decide_eq_false_iff_not, Bool.not_eq_true', Bool.not_eq_false'] at *); simp [*]; done) | ((try simp only [eqI, decide_eq_true_eq, decide_eq_false_iff_not, Bool.not_eq_true', Bool.not_eq_false'] at *); (try simp [*]); grind) | ((try simp only [eqI, decide_eq_true_eq, decide_eq_false_iff_not, Bool.not_eq_true', Bool.not_eq_false'] at *); grind))
theorem progOk_ok (rd : List UInt8 → Bool) (hR : Reads 51 rd) (h24 : ∀ s, rd s = true → s.length ≤ 24) (p : GProgram) (hp : p.ok) : fnL Try.prog T L0 18 [.agg (p.enc.map .d)] [] = some (.one (.c (.d (.v (.bool (progOK rd p))))), []) := by
  have : maxLen = 9223372036854775807 := rfl
  have L1 := progOk_loop1 rd hR h24 p hp p.Nodes.length 0 (by omega) (by omega)
  have L2 := progOk_loop2 p hp p.Rules.length 0 (by omega) (by omega)
  obtain ⟨⟨hN, _⟩, hN2, _⟩ := hp
  rw [Int.toNat_zero, List.drop_zero] at L1 L2
  clear hR h24
  unfold progOK
  generalize nodesOK rd p p.Nodes 0 = t1 at L1 ⊢
  generalize p.Rules.all (ruleOK p) = t2 at L2 ⊢
  cases t1 <;> cases t2 <;> simp only [if_true, if_false, Bool.false_eq_true] at L1 L2
  all_goals
    refine nfW true (fun _ => W18.2) W18.1 Try.func18 rfl rfl fun c ht hr => ?_; simp only [okW, List.length_cons, List.length_nil, Nat.reduceAdd, firstReg, and_true] at c; (try simp (maxSteps := 4000000) (disch := first | assumption | omega) only [go_sem, *, encP, rN_len, rR_len, L1, L2, pairsOk, ↓bin_eqI, ↓bin_neI, Nat.reduceAdd, Nat.reduceSub, Nat.reduceMul, Nat.reduceBEq, Nat.reduceLeDiff, Nat.reduceLT, Nat.reduceDiv, Nat.reduceMod, drwK_some, disj, ordered, ancs]); repeat' ((first | with_reducible first | refine caK (fun hb => ?_) fun hb => ?_ | refine caG (fun hb => ?_) fun hb => ?_ | refine caP (fun hb => ?_) fun hb => ?_ | refine caH (fun hb => ?_) fun hb => ?_ | refine caQ (fun hb => ?_) fun hb => ?_ | refine ite_cases (fun hb => ?_) fun hb => ?_) <;> try simp (maxSteps := 4000000) (disch := first | assumption | omega) only [go_sem, *, encP, rN_len, rR_len, L1, L2, pairsOk, ↓bin_eqI, ↓bin_neI, Nat.reduceAdd, Nat.reduceSub, Nat.reduceMul, Nat.reduceBEq, Nat.reduceLeDiff, Nat.reduceLT, Nat.reduceDiv, Nat.reduceMod, drwK_some, disj, ordered, ancs])
    all_goals clear L1 L2
    all_goals (first | rfl | (simp [*]; done) | ((try simp only [eqI, decide_eq_true_eq, decide_eq_false_iff_not, Bool.not_eq_true', Bool.not_eq_false'] at *); simp [*]; done) | ((try simp only [eqI, decide_eq_true_eq, decide_eq_false_iff_not, Bool.not_eq_true', Bool.not_eq_false'] at *); (try simp [*]); grind) | ((try simp only [eqI, decide_eq_true_eq, decide_eq_false_iff_not, Bool.not_eq_true', Bool.not_eq_false'] at *); grind))
theorem sProgOk_loop1 (rd : List UInt8 → Bool) (hR : Reads 59 rd) (h24 : ∀ s, rd s = true → s.length ≤ 24) (p : GProgram) (hp : p.ok) : ∀ (m : Nat) (i : Int), 0 ≤ i → i + m = p.Nodes.length →
    loopC Try.prog T (fnL Try.prog T L0) 14 (cq Try.f14 [0, 0, 1, 0, 1, 1]) ⟨[J, .one (.c (.ptr 0 0 0)), J, .one (.c (.d (.v (.int .i64 (i))))), J, J, J, J, J, J, J, J, J, J, J, J, J, J, J, J, J, J, J, J, J, J, J, J, J, J, J, J, J, J, J, J, J, J, J, J, J, J, J, J, J, J, J, J, J, J, J, J, J, J, J, J, J, J, J, J, J, J, J, J, J, J, J, J, J, J, J, J, J, J, J, J, J, J, J, J, J, J, J, J, J, J, J, J, J, J, J, J], hpOf [some (.var [.d (.sl 3 (rN p.Nodes)), .d (.sl 3 (rR p.Rules))])], 1, 0⟩ =
      if nodesOK rd p (p.Nodes.drop i.toNat) i = true then some (.exit 0, ⟨[J, .one (.c (.ptr 0 0 0)), J, J, J, J, J, J, J, J, J, J, J, J, J, J, J, J, J, J, J, J, J, J, J, J, J, J, J, J, J, J, J, J, J, J, J, J, J, J, J, J, J, J, J, J, J, J, J, J, J, J, J, J, J, J, J, J, J, J, J, J, J, J, J, J, J, J, J, J, J, J, J, J, J, J, J, J, J, J, J, J, J, J, J, J, J, J, J, J, J, J], hpOf [some (.var [.d (.sl 3 (rN p.Nodes)), .d (.sl 3 (rR p.Rules))])], 1, 0⟩) else some (.ret, ⟨[J, .one (.c (.ptr 0 0 0)), .one (.c (.d (.v (.bool (false))))), J, J, J, J, J, J, J, J, J, J, J, J, J, J, J, J, J, J, J, J, J, J, J, J, J, J, J, J, J, J, J, J, J, J, J, J, J, J, J, J, J, J, J, J, J, J, J, J, J, J, J, J, J, J, J, J, J, J, J, J, J, J, J, J, J, J, J, J, J, J, J, J, J, J, J, J, J, J, J, J, J, J, J, J, J, J, J, J, J], hpOf [some (.var [.d (.sl 3 (rN p.Nodes)), .d (.sl 3 (rR p.Rules))])], 1, 0⟩)
  | 0, i, h0, hm => by
    have : maxLen = 9223372036854775807 := rfl
    clear hR h24
    obtain ⟨⟨hN, _⟩, _⟩ := hp
    refine lpW true (fun _ => W14.2) W14.1 rfl fun c hl => ?_; simp only [subR, chi, okW, List.length_cons, List.length_nil, Nat.reduceAdd, firstReg, and_true] at c hl; (try simp (maxSteps := 4000000) (disch := first | assumption | omega) only [go_sem, *, drop_end, nodesOK, rN_len, pairsOk, ↓bin_eqI, ↓bin_neI, Nat.reduceAdd, Nat.reduceSub, Nat.reduceMul, Nat.reduceBEq, Nat.reduceLeDiff, Nat.reduceLT, Nat.reduceDiv, Nat.reduceMod, drwK_some, disj, ordered, ancs]); repeat' ((first | with_reducible first | refine caK (fun hb => ?_) fun hb => ?_ | refine caG (fun hb => ?_) fun hb => ?_ | refine caP (fun hb => ?_) fun hb => ?_ | refine caH (fun hb => ?_) fun hb => ?_ | refine caQ (fun hb => ?_) fun hb => ?_ | refine ite_cases (fun hb => ?_) fun hb => ?_) <;> try simp (maxSteps := 4000000) (disch := first | assumption | omega) only [go_sem, *, drop_end, nodesOK, rN_len, pairsOk, ↓bin_eqI, ↓bin_neI, Nat.reduceAdd, Nat.reduceSub, Nat.reduceMul, Nat.reduceBEq, Nat.reduceLeDiff, Nat.reduceLT, Nat.reduceDiv, Nat.reduceMod, drwK_some, disj, ordered, ancs])
  | m + 1, i, h0, hm => by
    have : maxLen = 9223372036854775807 := rfl
    have ih := sProgOk_loop1 rd hR h24 p hp m (i + 1) (by omega) (by omega)
    have hl : i.toNat < p.Nodes.length := by omega
    have hd := drop_at p.Nodes i ⟨h0, hl⟩
    rw [hd]
    clear hd
    obtain ⟨⟨hN, hpx⟩, _⟩ := hp
    have hx := List.getElem?_eq_getElem hl
    obtain ⟨_, ht, hk, _⟩ := hpx p.Nodes[i.toNat] (List.getElem_mem _)
    clear hpx
    generalize p.Nodes[i.toNat] = x at hx ht hk ⊢
    have hF := l06Node_ok rd hR h24 p hN i ⟨h0, by omega⟩ x hx ht hk
    simp only [encP, List.map_cons, List.map_nil] at hF
    clear hR h24 hx
    rw [nodesOK]
    generalize nodeOK rd p x i = t0 at hF ⊢
    refine lpW true (fun _ => W14.2) W14.1 rfl fun c hl => ?_; simp only [subR, chi, okW, List.length_cons, List.length_nil, Nat.reduceAdd, firstReg, and_true] at c hl; (try simp (maxSteps := 4000000) (disch := first | assumption | omega) only [go_sem, *, GNode.enc, hF, rN_len, pairsOk, ↓bin_eqI, ↓bin_neI, Nat.reduceAdd, Nat.reduceSub, Nat.reduceMul, Nat.reduceBEq, Nat.reduceLeDiff, Nat.reduceLT, Nat.reduceDiv, Nat.reduceMod, drwK_some, disj, ordered, ancs]); repeat' ((first | with_reducible first | refine caK (fun hb => ?_) fun hb => ?_ | refine caG (fun hb => ?_) fun hb => ?_ | refine caP (fun hb => ?_) fun hb => ?_ | refine caH (fun hb => ?_) fun hb => ?_ | refine caQ (fun hb => ?_) fun hb => ?_ | refine ite_cases (fun hb => ?_) fun hb => ?_) <;> try simp (maxSteps := 4000000) (disch := first | assumption | omega) only [go_sem, *, GNode.enc, hF, rN_len, pairsOk, ↓bin_eqI, ↓bin_neI, Nat.reduceAdd, Nat.reduceSub, Nat.reduceMul, Nat.reduceBEq, Nat.reduceLeDiff, Nat.reduceLT, Nat.reduceDiv, Nat.reduceMod, drwK_some, disj, ordered, ancs])
    all_goals clear ih hF
    all_goals (first | rfl | (simp [*]; done) | ((try simp only [eqI, decide_eq_true_eq, decide_eq_false_iff_not, Bool.not_eq_true', Bool.not_eq_false'] at *); simp [*]; done) | ((try simp only [eqI, decide_eq_true_eq, decide_eq_false_iff_not, Bool.not_eq_true', Bool.not_eq_false'] at *); (try simp [*]); grind) | ((try simp only [eqI, decide_eq_true_eq, decide_eq_false_iff_not, Bool.not_eq_true', Bool.not_eq_false'] at *); grind))
theorem sProgOk_loop2 (p : GProgram) (hp : p.ok) : ∀ (m : Nat) (i : Int), 0 ≤ i → i + m = p.Rules.length →
    loopC Try.prog T (fnL Try.prog T L0) 14 (cq Try.f14 [0, 0, 1, 0, 1, 1, 1]) ⟨[J, .one (.c (.ptr 0 0 0)), J, J, .one (.c (.d (.v (.int .i64 (i))))), J, J, J, J, J, J, J, J, J, J, J, J, J, J, J, J, J, J, J, J, J, J, J, J, J, J, J, J, J, J, J, J, J, J, J, J, J, J, J, J, J, J, J, J, J, J, J, J, J, J, J, J, J, J, J, J, J, J, J, J, J, J, J, J, J, J, J, J, J, J, J, J, J, J, J, J, J, J, J, J, J, J, J, J, J, J, J], hpOf [some (.var [.d (.sl 3 (rN p.Nodes)), .d (.sl 3 (rR p.Rules))])], 1, 0⟩ =
      if (p.Rules.drop i.toNat).all (ruleOK p) = true then some (.exit 2, ⟨[J, J, J, J, J, J, J, J, J, J, J, J, J, J, J, J, J, J, J, J, J, J, J, J, J, J, J, J, J, J, J, J, J, J, J, J, J, J, J, J, J, J, J, J, J, J, J, J, J, J, J, J, J, J, J, J, J, J, J, J, J, J, J, J, J, J, J, J, J, J, J, J, J, J, J, J, J, J, J, J, J, J, J, J, J, J, J, J, J, J, J, J], hpOf [], 0, 0⟩) else some (.ret, ⟨[J, J, .one (.c (.d (.v (.bool (false))))), J, J, J, J, J, J, J, J, J, J, J, J, J, J, J, J, J, J, J, J, J, J, J, J, J, J, J, J, J, J, J, J, J, J, J, J, J, J, J, J, J, J, J, J, J, J, J, J, J, J, J, J, J, J, J, J, J, J, J, J, J, J, J, J, J, J, J, J, J, J, J, J, J, J, J, J, J, J, J, J, J, J, J, J, J, J, J, J, J], hpOf [], 0, 0⟩)
  | 0, i, h0, hm => by
    have : maxLen = 9223372036854775807 := rfl
    obtain ⟨_, hN, _⟩ := hp
    refine lpW true (fun _ => W14.2) W14.1 rfl fun c hl => ?_; simp only [subR, chi, okW, List.length_cons, List.length_nil, Nat.reduceAdd, firstReg, and_true] at c hl; (try simp (maxSteps := 4000000) (disch := first | assumption | omega) only [go_sem, *, drop_end, List.all_nil, rR_len, pairsOk, ↓bin_eqI, ↓bin_neI, Nat.reduceAdd, Nat.reduceSub, Nat.reduceMul, Nat.reduceBEq, Nat.reduceLeDiff, Nat.reduceLT, Nat.reduceDiv, Nat.reduceMod, drwK_some, disj, ordered, ancs]); repeat' ((first | with_reducible first | refine caK (fun hb => ?_) fun hb => ?_ | refine caG (fun hb => ?_) fun hb => ?_ | refine caP (fun hb => ?_) fun hb => ?_ | refine caH (fun hb => ?_) fun hb => ?_ | refine caQ (fun hb => ?_) fun hb => ?_ | refine ite_cases (fun hb => ?_) fun hb => ?_) <;> try simp (maxSteps := 4000000) (disch := first | assumption | omega) only [go_sem, *, drop_end, List.all_nil, rR_len, pairsOk, ↓bin_eqI, ↓bin_neI, Nat.reduceAdd, Nat.reduceSub, Nat.reduceMul, Nat.reduceBEq, Nat.reduceLeDiff, Nat.reduceLT, Nat.reduceDiv, Nat.reduceMod, drwK_some, disj, ordered, ancs])
  | m + 1, i, h0, hm => by
    have : maxLen = 9223372036854775807 := rfl
    have ih := sProgOk_loop2 p hp m (i + 1) (by omega) (by omega)
    have hl : i.toNat < p.Rules.length := by omega
    have hd := drop_at p.Rules i ⟨h0, hl⟩
    rw [hd]
    clear hd
    have hg := rR_get p.Rules i.toNat hl
    obtain ⟨⟨hN, _⟩, hRl, _⟩ := hp
    generalize p.Rules[i.toNat] = r at hg ⊢
    rw [List.all_cons]
    obtain ⟨t0, ht0⟩ : ∃ t, ruleOK p r = t := ⟨_, rfl⟩
    rw [ht0]
    have ht1 := ht0
    clear ht0
    unfold ruleOK isEx at ht1
    have ht2 := ht1
    clear ht1
    refine lpW true (fun _ => W14.2) W14.1 rfl fun c hl => ?_; simp only [subR, chi, okW, List.length_cons, List.length_nil, Nat.reduceAdd, firstReg, and_true] at c hl; (try simp (maxSteps := 4000000) (disch := first | assumption | omega) only [go_sem, *, GRule.enc, GNode.enc, hg, in_ok, l06Ex_ok, rN_len, rR_len, rN_get, pairsOk, ↓bin_eqI, ↓bin_neI, Nat.reduceAdd, Nat.reduceSub, Nat.reduceMul, Nat.reduceBEq, Nat.reduceLeDiff, Nat.reduceLT, Nat.reduceDiv, Nat.reduceMod, drwK_some, disj, ordered, ancs]); repeat' ((first | with_reducible first | refine caK (fun hb => ?_) fun hb => ?_ | refine caG (fun hb => ?_) fun hb => ?_ | refine caP (fun hb => ?_) fun hb => ?_ | refine caH (fun hb => ?_) fun hb => ?_ | refine caQ (fun hb => ?_) fun hb => ?_ | refine ite_cases (fun hb => ?_) fun hb => ?_) <;> try simp (maxSteps := 4000000) (disch := first | assumption | omega) only [go_sem, *, GRule.enc, GNode.enc, hg, in_ok, l06Ex_ok, rN_len, rR_len, rN_get, pairsOk, ↓bin_eqI, ↓bin_neI, Nat.reduceAdd, Nat.reduceSub, Nat.reduceMul, Nat.reduceBEq, Nat.reduceLeDiff, Nat.reduceLT, Nat.reduceDiv, Nat.reduceMod, drwK_some, disj, ordered, ancs])
    all_goals clear ih hg
    all_goals try rw [opAt_get p r.Do (by omega)] at ht2
    all_goals try rw [opAt_get p r.If (by omega)] at ht2
    all_goals subst ht2
    all_goals (first | rfl | (simp [*]; done) | ((try simp only [eqI, decide_eq_true_eq, decide_eq_false_iff_not, Bool.not_eq_true', Bool.not_eq_false'] at *); simp [*]; done) | ((try simp only [eqI, decide_eq_true_eq, decide_eq_false_iff_not, Bool.not_eq_true', Bool.not_eq_false'] at *); (try simp [*]); grind) | ((try simp only [eqI, decide_eq_true_eq, decide_eq_false_iff_not, Bool.not_eq_true', Bool.not_eq_false'] at *); grind))
theorem sProgOk_ok (rd : List UInt8 → Bool) (hR : Reads 59 rd) (h24 : ∀ s, rd s = true → s.length ≤ 24) (p : GProgram) (hp : p.ok) : fnL Try.prog T L0 14 [.agg (p.enc.map .d)] [] = some (.one (.c (.d (.v (.bool (progOK rd p))))), []) := by
  have : maxLen = 9223372036854775807 := rfl
  have L1 := sProgOk_loop1 rd hR h24 p hp p.Nodes.length 0 (by omega) (by omega)
  have L2 := sProgOk_loop2 p hp p.Rules.length 0 (by omega) (by omega)
  obtain ⟨⟨hN, _⟩, hN2, _⟩ := hp
  rw [Int.toNat_zero, List.drop_zero] at L1 L2
  clear hR h24
  unfold progOK
  generalize nodesOK rd p p.Nodes 0 = t1 at L1 ⊢
  generalize p.Rules.all (ruleOK p) = t2 at L2 ⊢
  cases t1 <;> cases t2 <;> simp only [if_true, if_false, Bool.false_eq_true] at L1 L2
  all_goals
    refine nfW true (fun _ => W14.2) W14.1 Try.func14 rfl rfl fun c ht hr => ?_; simp only [okW, List.length_cons, List.length_nil, Nat.reduceAdd, firstReg, and_true] at c; (try simp (maxSteps := 4000000) (disch := first | assumption | omega) only [go_sem, *, encP, rN_len, rR_len, L1, L2, pairsOk, ↓bin_eqI, ↓bin_neI, Nat.reduceAdd, Nat.reduceSub, Nat.reduceMul, Nat.reduceBEq, Nat.reduceLeDiff, Nat.reduceLT, Nat.reduceDiv, Nat.reduceMod, drwK_some, disj, ordered, ancs]); repeat' ((first | with_reducible first | refine caK (fun hb => ?_) fun hb => ?_ | refine caG (fun hb => ?_) fun hb => ?_ | refine caP (fun hb => ?_) fun hb => ?_ | refine caH (fun hb => ?_) fun hb => ?_ | refine caQ (fun hb => ?_) fun hb => ?_ | refine ite_cases (fun hb => ?_) fun hb => ?_) <;> try simp (maxSteps := 4000000) (disch := first | assumption | omega) only [go_sem, *, encP, rN_len, rR_len, L1, L2, pairsOk, ↓bin_eqI, ↓bin_neI, Nat.reduceAdd, Nat.reduceSub, Nat.reduceMul, Nat.reduceBEq, Nat.reduceLeDiff, Nat.reduceLT, Nat.reduceDiv, Nat.reduceMod, drwK_some, disj, ordered, ancs])
    all_goals clear L1 L2
    all_goals (first | rfl | (simp [*]; done) | ((try simp only [eqI, decide_eq_true_eq, decide_eq_false_iff_not, Bool.not_eq_true', Bool.not_eq_false'] at *); simp [*]; done) | ((try simp only [eqI, decide_eq_true_eq, decide_eq_false_iff_not, Bool.not_eq_true', Bool.not_eq_false'] at *); (try simp [*]); grind) | ((try simp only [eqI, decide_eq_true_eq, decide_eq_false_iff_not, Bool.not_eq_true', Bool.not_eq_false'] at *); grind))
end
end Go.Vsi
