/- What the functions of the program, of the reference and of the law do (a part of it). -/
import Derived.Test.YtgphmleklcicaaaP4
namespace Go.Vsi
open Go.Proofs
noncomputable section
set_option maxRecDepth 100000
set_option maxHeartbeats 4000000
set_option linter.unusedSimpArgs false
set_option linter.unusedVariables false
attribute [local go_sem ↓] IX9
def rB (R : List Bool) : List (List D) := R.map fun b => [.v (.bool (b))]
theorem rB_len (R : List Bool) : (rB R).length = R.length := by simp [rB]
theorem rB_set (R : List Bool) (i : Nat) (b : Bool) : (rB R).set i [.v (.bool (b))] = rB (R.set i b) := by simp [rB, List.map_set]
theorem rB_take (R : List Bool) (n : Nat) (h : R.length ≤ n) : (rB R).take n = rB R := List.take_of_length_le (by rw [rB_len]; exact h)
theorem rB_rep (n : Nat) : List.replicate n [.v (.bool (false))] = rB (List.replicate n false) := by simp [rB]
def kidMark (R : List Bool) (ks : List Int) : List Bool := ks.foldl (fun R k => R.set k.toNat true) R
theorem kidMark_len (ks : List Int) : ∀ R : List Bool, (kidMark R ks).length = R.length := by
  induction ks with
  | nil => intro R; rfl
  | cons k ks ih => intro R; show (kidMark (R.set k.toNat true) ks).length = _; rw [ih]; simp
def ruleMark (R : List Bool) (r : GRule) : List Bool := if 0 ≤ r.If then (R.set r.Do.toNat true).set r.If.toNat true else R.set r.Do.toNat true
theorem ruleMark_len (R : List Bool) (r : GRule) : (ruleMark R r).length = R.length := by unfold ruleMark; split <;> simp
abbrev vP (p : GProgram) : Option Blk := some (.var [.d (.sl 3 (rN p.Nodes)), .d (.sl 3 (rR p.Rules))])
theorem reach_inner (p : GProgram) (i : Int) (n : Nat) (hi : 0 ≤ i ∧ i < n) (xs : List Int) (b : Bool) (hx : xs.length ≤ maxLen) (hk : ∀ k ∈ xs, 0 ≤ k ∧ k < i) : ∀ (m : Nat) (j : Int) (R : List Bool), 0 ≤ j → j + m = xs.length → R.length = n → R[i.toNat]? = some b →
    loopC Try.prog T (fnL Try.prog T L0) 20 (cq Try.f20 [0, 0, 1, 0, 0, 1, 0, 0, 1, 0, 1, 1, 1]) ⟨[J, J, .one (.c (.ptr 0 0 0)), J, J, .one (.c (.arr 1 0 n)), J, J, .one (.c (.d (.v (.int .i64 (i))))), J, J, J, J, J, J, J, J, J, J, J, J, J, J, J, J, J, J, J, J, J, J, J, J, J, J, J, J, J, J, J, J, J, J, J, J, J, J, J, J, J, J, J, J, J, J, .one (.c (.d (.sl 1 (rI xs)))), .one (.c (.d (.v (.int .i64 ((xs.length : Int)))))), .one (.c (.d (.v (.int .i64 (j))))), J, J, J, J, J, J, J, J, J, J, J, J, J, J, J, J, J, J], hpOf [vP p, some (.arr 1 (rB R))], 2, 0⟩ =
      some (.exit 4, ⟨[J, J, .one (.c (.ptr 0 0 0)), J, J, .one (.c (.arr 1 0 n)), J, J, .one (.c (.d (.v (.int .i64 (i))))), J, J, J, J, J, J, J, J, J, J, J, J, J, J, J, J, J, J, J, J, J, J, J, J, J, J, J, J, J, J, J, J, J, J, J, J, J, J, J, J, J, J, J, J, J, J, J, J, J, J, J, J, J, J, J, J, J, J, J, J, J, J, J, J, J, J, J], hpOf [vP p, some (.arr 1 (rB (if b = true then kidMark R (xs.drop j.toNat) else R)))], 2, 0⟩)
  | 0, j, R, h0, hm, hl, hb => by
    have : maxLen = 9223372036854775807 := rfl
    rw [drop_end xs j (by omega)]
    have e : (if b = true then kidMark R [] else R) = R := by cases b <;> rfl
    rw [e]
    clear hk e
    refine lpW true (fun _ => W20.2) W20.1 rfl fun c hl => ?_; simp only [subR, chi, okW, List.length_cons, List.length_nil, Nat.reduceAdd, firstReg, and_true] at c hl; (try simp (maxSteps := 4000000) (disch := first | assumption | omega) only [go_sem, *, rI, vP, pairsOk, ↓bin_eqI, ↓bin_neI, Nat.reduceAdd, Nat.reduceSub, Nat.reduceMul, Nat.reduceBEq, Nat.reduceLeDiff, Nat.reduceLT, Nat.reduceDiv, Nat.reduceMod, drwK_some, disj, ordered, ancs]); repeat' ((first | with_reducible first | refine caK (fun hb => ?_) fun hb => ?_ | refine caG (fun hb => ?_) fun hb => ?_ | refine caP (fun hb => ?_) fun hb => ?_ | refine caH (fun hb => ?_) fun hb => ?_ | refine caQ (fun hb => ?_) fun hb => ?_ | refine ite_cases (fun hb => ?_) fun hb => ?_) <;> try simp (maxSteps := 4000000) (disch := first | assumption | omega) only [go_sem, *, rI, vP, pairsOk, ↓bin_eqI, ↓bin_neI, Nat.reduceAdd, Nat.reduceSub, Nat.reduceMul, Nat.reduceBEq, Nat.reduceLeDiff, Nat.reduceLT, Nat.reduceDiv, Nat.reduceMod, drwK_some, disj, ordered, ancs])
  | m + 1, j, R, h0, hm, hl, hb => by
    have : maxLen = 9223372036854775807 := rfl
    have hd := drop_at xs j (by omega)
    obtain ⟨k1, k2⟩ := hk xs[j.toNat] (List.getElem_mem _)
    have hg : (rI xs)[j.toNat]? = some [.v (.int .i64 (xs[j.toNat]))] := map_get xs _ _ (by omega)
    rw [hd]
    clear hd
    generalize xs[j.toNat] = k at k1 k2 hg ⊢
    have hkl : k.toNat < R.length := by omega
    obtain ⟨c, hc⟩ : ∃ c, R[k.toNat]? = some c := ⟨_, List.getElem?_eq_getElem hkl⟩
    have ih := reach_inner p i n hi xs b hx hk m (j + 1) (R.set k.toNat (c || b)) (by omega) (by omega) (by simpa using hl) (by rw [List.getElem?_set_ne (by omega)]; exact hb)
    have g1 : (rB R)[k.toNat]? = some [.v (.bool (c))] := by simp [rB, hc]
    have g2 : (rB R)[i.toNat]? = some [.v (.bool (b))] := by simp [rB, hb]
    have e : (if b = true then kidMark R (k :: xs.drop (j + 1).toNat) else R) = (if b = true then kidMark (R.set k.toNat (c || b)) (xs.drop (j + 1).toNat) else R.set k.toNat (c || b)) := by
      cases b with
      | true => simp [kidMark]
      | false =>
        simp only [Bool.or_false, Bool.false_eq_true, if_false]
        apply List.ext_getElem?
        intro q
        rw [List.getElem?_set]
        split
        · rename_i h; subst h; simp [hkl]; rw [List.getElem?_eq_getElem hkl] at hc; exact Option.some.inj hc
        · rfl
    rw [e]
    have hrl : (rI xs).length = xs.length := by simp [rI]
    clear hk hc hb e
    cases c <;> cases b
    all_goals
      simp only [Bool.or_false, Bool.or_true, Bool.false_or, Bool.true_or, vP] at ih ⊢
      refine lpW true (fun _ => W20.2) W20.1 rfl fun c hl => ?_; simp only [subR, chi, okW, List.length_cons, List.length_nil, Nat.reduceAdd, firstReg, and_true] at c hl; (try simp (maxSteps := 4000000) (disch := first | assumption | omega) only [go_sem, *, hg, hrl, g1, g2, rB_set, pairsOk, ↓bin_eqI, ↓bin_neI, Nat.reduceAdd, Nat.reduceSub, Nat.reduceMul, Nat.reduceBEq, Nat.reduceLeDiff, Nat.reduceLT, Nat.reduceDiv, Nat.reduceMod, drwK_some, disj, ordered, ancs]); repeat' ((first | with_reducible first | refine caK (fun hb => ?_) fun hb => ?_ | refine caG (fun hb => ?_) fun hb => ?_ | refine caP (fun hb => ?_) fun hb => ?_ | refine caH (fun hb => ?_) fun hb => ?_ | refine caQ (fun hb => ?_) fun hb => ?_ | refine ite_cases (fun hb => ?_) fun hb => ?_) <;> try simp (maxSteps := 4000000) (disch := first | assumption | omega) only [go_sem, *, hg, hrl, g1, g2, rB_set, pairsOk, ↓bin_eqI, ↓bin_neI, Nat.reduceAdd, Nat.reduceSub, Nat.reduceMul, Nat.reduceBEq, Nat.reduceLeDiff, Nat.reduceLT, Nat.reduceDiv, Nat.reduceMod, drwK_some, disj, ordered, ancs])
def kidsAt (p : GProgram) (i : Nat) : List Int := match p.Nodes[i]? with | some x => x.Kids | none => []
def nodeMark (p : GProgram) : Nat → List Bool → List Bool
  | 0, R => R
  | i + 1, R => nodeMark p i (if R[i]? = some true then kidMark R (kidsAt p i) else R)
/-- Kids lie ahead. -/
def KidsIn (p : GProgram) : Prop := ∀ (i : Nat) (x : GNode), p.Nodes[i]? = some x → x.Kids.length ≤ maxLen ∧ ∀ k ∈ x.Kids, 0 ≤ k ∧ k < (i : Int)
theorem reach_outer (p : GProgram) (n : Nat) (hn : p.Nodes.length = n) (hm : n ≤ 200) (hK : KidsIn p) : ∀ (i : Nat) (R : List Bool), i ≤ n → R.length = n →
    loopC Try.prog T (fnL Try.prog T L0) 20 (cq Try.f20 [0, 0, 1, 0, 1, 1, 1]) ⟨[J, J, .one (.c (.ptr 0 0 0)), J, J, .one (.c (.arr 1 0 n)), J, J, .one (.c (.d (.v (.int .i64 ((i : Int) - 1))))), J, J, J, J, J, J, J, J, J, J, J, J, J, J, J, J, J, J, J, J, J, J, J, J, J, J, J, J, J, J, J, J, J, J, J, J, J, J, J, J, J, J, J, J, J, J, J, J, J, J, J, J, J, J, J, J, J, J, J, J, J, J, J, J, J, J, J], hpOf [vP p, some (.arr 1 (rB R))], 2, 0⟩ =
      some (.exit 2, ⟨[J, J, J, J, J, .one (.c (.arr 0 0 n)), J, J, J, J, J, J, J, J, J, J, J, J, J, J, J, J, J, J, J, J, J, J, J, J, J, J, J, J, J, J, J, J, J, J, J, J, J, J, J, J, J, J, J, J, J, J, J, J, J, J, J, J, J, J, J, J, J, J, J, J, J, J, J, J, J, J, J, J, J, J], hpOf [some (.arr 1 (rB (nodeMark p i R)))], 1, 0⟩)
  | 0, R, hi, hl => by
    clear hK
    rw [nodeMark]
    simp only [vP]
    refine lpW true (fun _ => W20.2) W20.1 rfl fun c hl => ?_; simp only [subR, chi, okW, List.length_cons, List.length_nil, Nat.reduceAdd, firstReg, and_true] at c hl; (try simp (maxSteps := 4000000) (disch := first | assumption | omega) only [go_sem, *, vP, pairsOk, ↓bin_eqI, ↓bin_neI, Nat.reduceAdd, Nat.reduceSub, Nat.reduceMul, Nat.reduceBEq, Nat.reduceLeDiff, Nat.reduceLT, Nat.reduceDiv, Nat.reduceMod, drwK_some, disj, ordered, ancs]); repeat' ((first | with_reducible first | refine caK (fun hb => ?_) fun hb => ?_ | refine caG (fun hb => ?_) fun hb => ?_ | refine caP (fun hb => ?_) fun hb => ?_ | refine caH (fun hb => ?_) fun hb => ?_ | refine caQ (fun hb => ?_) fun hb => ?_ | refine ite_cases (fun hb => ?_) fun hb => ?_) <;> try simp (maxSteps := 4000000) (disch := first | assumption | omega) only [go_sem, *, vP, pairsOk, ↓bin_eqI, ↓bin_neI, Nat.reduceAdd, Nat.reduceSub, Nat.reduceMul, Nat.reduceBEq, Nat.reduceLeDiff, Nat.reduceLT, Nat.reduceDiv, Nat.reduceMod, drwK_some, disj, ordered, ancs])
  | i + 1, R, hi, hl => by
    have hil : i < p.Nodes.length := by omega
    have hg : (rN p.Nodes)[i]? = some (GNode.enc p.Nodes[i]) := rN_get _ _ hil
    obtain ⟨hkl, hk⟩ := hK i p.Nodes[i] (List.getElem?_eq_getElem hil)
    have hka : kidsAt p i = p.Nodes[i].Kids := by unfold kidsAt; rw [List.getElem?_eq_getElem hil]
    obtain ⟨b, hb⟩ : ∃ b, R[i]? = some b := ⟨_, List.getElem?_eq_getElem (by omega)⟩
    have L := reach_inner p i n ⟨by omega, by omega⟩ p.Nodes[i].Kids b hkl hk p.Nodes[i].Kids.length 0 R (by omega) (by omega) hl (by simpa using hb)
    have hR1 : (if R[i]? = some true then kidMark R (kidsAt p i) else R) = (if b = true then kidMark R p.Nodes[i].Kids else R) := by rw [hb, hka]; cases b <;> simp
    have ih := reach_outer p n hn hm hK i (if R[i]? = some true then kidMark R (kidsAt p i) else R) (by omega) (by split <;> simp [kidMark_len, hl])
    rw [nodeMark]
    rw [hR1] at ih ⊢
    rw [Int.toNat_zero, List.drop_zero] at L
    generalize (if b = true then kidMark R p.Nodes[i].Kids else R) = R1 at L ih ⊢
    have e1 : ((i + 1 : Nat) : Int) - 1 = (i : Int) := by omega
    rw [e1]
    generalize hgx : p.Nodes[i] = x at L hg hkl
    simp only [rI, vP] at L ih ⊢
    have hnl : (rN p.Nodes).length = n := by rw [rN_len, hn]
    clear hK hk hka hb hR1 hgx
    refine lpW true (fun _ => W20.2) W20.1 rfl fun c hl => ?_; simp only [subR, chi, okW, List.length_cons, List.length_nil, Nat.reduceAdd, firstReg, and_true] at c hl; (try simp (maxSteps := 4000000) (disch := first | assumption | omega) only [go_sem, *, vP, hg, GNode.enc, L, hnl, pairsOk, ↓bin_eqI, ↓bin_neI, Nat.reduceAdd, Nat.reduceSub, Nat.reduceMul, Nat.reduceBEq, Nat.reduceLeDiff, Nat.reduceLT, Nat.reduceDiv, Nat.reduceMod, drwK_some, disj, ordered, ancs]); repeat' ((first | with_reducible first | refine caK (fun hb => ?_) fun hb => ?_ | refine caG (fun hb => ?_) fun hb => ?_ | refine caP (fun hb => ?_) fun hb => ?_ | refine caH (fun hb => ?_) fun hb => ?_ | refine caQ (fun hb => ?_) fun hb => ?_ | refine ite_cases (fun hb => ?_) fun hb => ?_) <;> try simp (maxSteps := 4000000) (disch := first | assumption | omega) only [go_sem, *, vP, hg, GNode.enc, L, hnl, pairsOk, ↓bin_eqI, ↓bin_neI, Nat.reduceAdd, Nat.reduceSub, Nat.reduceMul, Nat.reduceBEq, Nat.reduceLeDiff, Nat.reduceLT, Nat.reduceDiv, Nat.reduceMod, drwK_some, disj, ordered, ancs])
theorem reach_rules (p : GProgram) (n : Nat) (hn : p.Nodes.length = n) (hm : n ≤ 200) (hr : p.Rules.length ≤ 12) (hD : ∀ r ∈ p.Rules, (0 ≤ r.Do ∧ r.Do < n) ∧ r.If < n) : ∀ (m : Nat) (j : Int) (R : List Bool), 0 ≤ j → j + m = p.Rules.length → R.length = n →
    loopC Try.prog T (fnL Try.prog T L0) 20 (cq Try.f20 [0, 0, 1, 0, 1, 1]) ⟨[J, .one (.c (.d (.v (.int .i64 (0))))), .one (.c (.ptr 0 0 0)), J, J, .one (.c (.arr 1 0 n)), J, J, J, J, J, J, J, J, J, J, .one (.c (.d (.sl 3 (rR p.Rules)))), .one (.c (.d (.v (.int .i64 ((p.Rules.length : Int)))))), .one (.c (.d (.v (.int .i64 (j))))), J, J, J, J, J, J, J, J, J, J, J, J, J, J, J, J, J, J, J, J, J, J, J, J, J, J, J, J, J, J, J, J, J, J, J, J, J, J, J, J, J, J, J, J, J, J, J, J, J, J, J, J, J, J, J, J, J], hpOf [vP p, some (.arr 1 (rB R))], 2, 0⟩ =
      some (.exit 0, ⟨[J, J, .one (.c (.ptr 0 0 0)), J, J, .one (.c (.arr 1 0 n)), J, J, J, J, J, J, J, J, J, J, J, J, J, J, J, J, J, J, J, J, J, J, J, J, J, J, J, J, J, J, J, J, J, J, J, J, J, J, J, J, J, J, J, J, J, J, J, J, J, J, J, J, J, J, J, J, J, J, J, J, J, J, J, J, J, J, J, J, J, J], hpOf [vP p, some (.arr 1 (rB ((p.Rules.drop j.toNat).foldl ruleMark R)))], 2, 0⟩)
  | 0, j, R, h0, hj, hl => by
    rw [drop_end p.Rules j (by omega), List.foldl_nil]
    clear hD
    simp only [vP]
    refine lpW true (fun _ => W20.2) W20.1 rfl fun c hl => ?_; simp only [subR, chi, okW, List.length_cons, List.length_nil, Nat.reduceAdd, firstReg, and_true] at c hl; (try simp (maxSteps := 4000000) (disch := first | assumption | omega) only [go_sem, *, vP, pairsOk, ↓bin_eqI, ↓bin_neI, Nat.reduceAdd, Nat.reduceSub, Nat.reduceMul, Nat.reduceBEq, Nat.reduceLeDiff, Nat.reduceLT, Nat.reduceDiv, Nat.reduceMod, drwK_some, disj, ordered, ancs]); repeat' ((first | with_reducible first | refine caK (fun hb => ?_) fun hb => ?_ | refine caG (fun hb => ?_) fun hb => ?_ | refine caP (fun hb => ?_) fun hb => ?_ | refine caH (fun hb => ?_) fun hb => ?_ | refine caQ (fun hb => ?_) fun hb => ?_ | refine ite_cases (fun hb => ?_) fun hb => ?_) <;> try simp (maxSteps := 4000000) (disch := first | assumption | omega) only [go_sem, *, vP, pairsOk, ↓bin_eqI, ↓bin_neI, Nat.reduceAdd, Nat.reduceSub, Nat.reduceMul, Nat.reduceBEq, Nat.reduceLeDiff, Nat.reduceLT, Nat.reduceDiv, Nat.reduceMod, drwK_some, disj, ordered, ancs])
  | m + 1, j, R, h0, hj, hl => by
    have hjl : j.toNat < p.Rules.length := by omega
    have hd := drop_at p.Rules j (by omega)
    have hg := rR_get p.Rules j.toNat hjl
    obtain ⟨⟨d1, d2⟩, d3⟩ := hD p.Rules[j.toNat] (List.getElem_mem _)
    rw [hd, List.foldl_cons]
    clear hd
    generalize p.Rules[j.toNat] = r at hg d1 d2 d3 ⊢
    have ih := reach_rules p n hn hm hr hD m (j + 1) (ruleMark R r) (by omega) (by omega) (by rw [ruleMark_len]; exact hl)
    have g1 : (rB R)[r.Do.toNat]? = some [.v (.bool (R[r.Do.toNat]'(by omega)))] := map_get R _ _ (by omega)
    clear hD
    by_cases hi : 0 ≤ r.If
    · have g2 : (rB (R.set r.Do.toNat true))[r.If.toNat]? = some [.v (.bool ((R.set r.Do.toNat true)[r.If.toNat]'(by simp; omega)))] := map_get (R.set r.Do.toNat true) _ _ (by simp; omega)
      have e : ruleMark R r = (R.set r.Do.toNat true).set r.If.toNat true := by unfold ruleMark; rw [if_pos hi]
      rw [e] at ih ⊢
      clear e
      simp only [vP] at ih ⊢
      refine lpW true (fun _ => W20.2) W20.1 rfl fun c hl => ?_; simp only [subR, chi, okW, List.length_cons, List.length_nil, Nat.reduceAdd, firstReg, and_true] at c hl; (try simp (maxSteps := 4000000) (disch := first | assumption | omega) only [go_sem, *, vP, hg, GRule.enc, g1, g2, rB_set, pairsOk, ↓bin_eql, ↓bin_neq, Nat.reduceAdd, Nat.reduceSub, Nat.reduceMul, Nat.reduceBEq, Nat.reduceLeDiff, Nat.reduceLT, Nat.reduceDiv, Nat.reduceMod, drwK_some, disj, ordered, ancs]); repeat' ((first | with_reducible first | refine caK (fun hb => ?_) fun hb => ?_ | refine caG (fun hb => ?_) fun hb => ?_ | refine caP (fun hb => ?_) fun hb => ?_ | refine caH (fun hb => ?_) fun hb => ?_ | refine caQ (fun hb => ?_) fun hb => ?_ | refine ite_cases (fun hb => ?_) fun hb => ?_) <;> try simp (maxSteps := 4000000) (disch := first | assumption | omega) only [go_sem, *, vP, hg, GRule.enc, g1, g2, rB_set, pairsOk, ↓bin_eql, ↓bin_neq, Nat.reduceAdd, Nat.reduceSub, Nat.reduceMul, Nat.reduceBEq, Nat.reduceLeDiff, Nat.reduceLT, Nat.reduceDiv, Nat.reduceMod, drwK_some, disj, ordered, ancs])
    · have e : ruleMark R r = R.set r.Do.toNat true := by unfold ruleMark; rw [if_neg hi]
      rw [e] at ih ⊢
      clear e
      simp only [vP] at ih ⊢
      refine lpW true (fun _ => W20.2) W20.1 rfl fun c hl => ?_; simp only [subR, chi, okW, List.length_cons, List.length_nil, Nat.reduceAdd, firstReg, and_true] at c hl; (try simp (maxSteps := 4000000) (disch := first | assumption | omega) only [go_sem, *, vP, hg, GRule.enc, g1, rB_set, pairsOk, ↓bin_eql, ↓bin_neq, Nat.reduceAdd, Nat.reduceSub, Nat.reduceMul, Nat.reduceBEq, Nat.reduceLeDiff, Nat.reduceLT, Nat.reduceDiv, Nat.reduceMod, drwK_some, disj, ordered, ancs]); repeat' ((first | with_reducible first | refine caK (fun hb => ?_) fun hb => ?_ | refine caG (fun hb => ?_) fun hb => ?_ | refine caP (fun hb => ?_) fun hb => ?_ | refine caH (fun hb => ?_) fun hb => ?_ | refine caQ (fun hb => ?_) fun hb => ?_ | refine ite_cases (fun hb => ?_) fun hb => ?_) <;> try simp (maxSteps := 4000000) (disch := first | assumption | omega) only [go_sem, *, vP, hg, GRule.enc, g1, rB_set, pairsOk, ↓bin_eql, ↓bin_neq, Nat.reduceAdd, Nat.reduceSub, Nat.reduceMul, Nat.reduceBEq, Nat.reduceLeDiff, Nat.reduceLT, Nat.reduceDiv, Nat.reduceMod, drwK_some, disj, ordered, ancs])
def reachL (p : GProgram) : List Bool := nodeMark p p.Nodes.length (p.Rules.foldl ruleMark (List.replicate p.Nodes.length false))
theorem nodeMark_len (p : GProgram) : ∀ (i : Nat) (R : List Bool), (nodeMark p i R).length = R.length
  | 0, R => rfl
  | i + 1, R => by rw [nodeMark, nodeMark_len p i]; split <;> simp [kidMark_len]
theorem rules_len : ∀ (rs : List GRule) (R : List Bool), (rs.foldl ruleMark R).length = R.length
  | [], R => rfl
  | r :: rs, R => by rw [List.foldl_cons, rules_len rs, ruleMark_len]
theorem reachL_len (p : GProgram) : (reachL p).length = p.Nodes.length := by unfold reachL; rw [nodeMark_len, rules_len]; simp
/-- What both walks ask of a program. -/
structure Fine (p : GProgram) : Prop where
  n : p.Nodes.length ≤ 200
  r : p.Rules.length ≤ 12
  kids : KidsIn p
  rules : ∀ r ∈ p.Rules, (0 ≤ r.Do ∧ r.Do < (p.Nodes.length : Int)) ∧ r.If < (p.Nodes.length : Int)
theorem reachedBy_ok (p : GProgram) (h : Fine p) : fnL Try.prog T L0 20 [.agg (p.enc.map .d), .c (.d (.v (.int .i64 (0))))] [] = some (.one (.c (.d (.sl 1 (rB (reachL p))))), []) := by
  obtain ⟨h1, h2, h3, h4⟩ := h
  have L1 := reach_rules p p.Nodes.length rfl h1 h2 h4 p.Rules.length 0 (List.replicate p.Nodes.length false) (by omega) (by omega) (by simp)
  have L2 := reach_outer p p.Nodes.length rfl h1 h3 p.Nodes.length (p.Rules.foldl ruleMark (List.replicate p.Nodes.length false)) (Nat.le_refl _) (by rw [rules_len]; simp)
  have hl := reachL_len p
  rw [Int.toNat_zero, List.drop_zero] at L1
  unfold reachL at hl ⊢
  generalize nodeMark p p.Nodes.length (p.Rules.foldl ruleMark (List.replicate p.Nodes.length false)) = R2 at L2 hl ⊢
  generalize p.Rules.foldl ruleMark (List.replicate p.Nodes.length false) = R1 at L1 L2
  have hroom : room = 70368744177664 := rfl
  clear h3 h4
  have hcast : ((p.Nodes.length : Int)).toNat = p.Nodes.length := by omega
  simp only [vP] at L1 L2
  refine nfW true (fun _ => W20.2) W20.1 Try.func20 rfl rfl fun c ht hr => ?_; simp only [okW, List.length_cons, List.length_nil, Nat.reduceAdd, firstReg, and_true] at c; (try simp (maxSteps := 4000000) (disch := first | assumption | omega) only [go_sem, *, encP, rN_len, rR_len, rB_rep, L1, L2, rB_take, pairsOk, ↓bin_eqI, ↓bin_neI, Nat.reduceAdd, Nat.reduceSub, Nat.reduceMul, Nat.reduceBEq, Nat.reduceLeDiff, Nat.reduceLT, Nat.reduceDiv, Nat.reduceMod, drwK_some, disj, ordered, ancs]); repeat' ((first | with_reducible first | refine caK (fun hb => ?_) fun hb => ?_ | refine caG (fun hb => ?_) fun hb => ?_ | refine caP (fun hb => ?_) fun hb => ?_ | refine caH (fun hb => ?_) fun hb => ?_ | refine caQ (fun hb => ?_) fun hb => ?_ | refine ite_cases (fun hb => ?_) fun hb => ?_) <;> try simp (maxSteps := 4000000) (disch := first | assumption | omega) only [go_sem, *, encP, rN_len, rR_len, rB_rep, L1, L2, rB_take, pairsOk, ↓bin_eqI, ↓bin_neI, Nat.reduceAdd, Nat.reduceSub, Nat.reduceMul, Nat.reduceBEq, Nat.reduceLeDiff, Nat.reduceLT, Nat.reduceDiv, Nat.reduceMod, drwK_some, disj, ordered, ancs])
theorem sreach_inner (p : GProgram) (i : Int) (n : Nat) (hi : 0 ≤ i ∧ i < n) (x : GNode) (hg : (rN p.Nodes)[i.toNat]? = some x.enc) (b : Bool) (hx : x.Kids.length ≤ maxLen) (hk : ∀ k ∈ x.Kids, 0 ≤ k ∧ k < i) : ∀ (m : Nat) (j : Int) (R : List Bool), 0 ≤ j → j + m = x.Kids.length → R.length = n → R[i.toNat]? = some b →
    loopC Try.prog T (fnL Try.prog T L0) 15 (cq Try.f15 [0, 0, 1, 0, 0, 1, 0, 0, 1, 0, 1, 1, 1]) ⟨[J, .one (.c (.ptr 0 0 0)), J, .one (.c (.arr 1 0 n)), J, .one (.c (.d (.v (.int .i64 (i))))), .one (.c (.d (.v (.int .i64 (j))))), J, J, J, J, J, J, J, J, J, J, J, J, J, J, J, J, J, J, J, J, J, J, J, J, J, J, J, J, J, J, J, J, J, J, J, J, J, J, J, J, J, J, J, J, J, J, J, J, J, J, J, J, J, J, J, J, J, J, J, J, J, J, J, J, J, J, J, J, J, J, J], hpOf [vP p, some (.arr 1 (rB R))], 2, 0⟩ =
      some (.exit 4, ⟨[J, .one (.c (.ptr 0 0 0)), J, .one (.c (.arr 1 0 n)), J, .one (.c (.d (.v (.int .i64 (i))))), J, J, J, J, J, J, J, J, J, J, J, J, J, J, J, J, J, J, J, J, J, J, J, J, J, J, J, J, J, J, J, J, J, J, J, J, J, J, J, J, J, J, J, J, J, J, J, J, J, J, J, J, J, J, J, J, J, J, J, J, J, J, J, J, J, J, J, J, J, J, J, J], hpOf [vP p, some (.arr 1 (rB (if b = true then kidMark R (x.Kids.drop j.toNat) else R)))], 2, 0⟩)
  | 0, j, R, h0, hm, hl, hb => by
    have : maxLen = 9223372036854775807 := rfl
    rw [drop_end x.Kids j (by omega)]
    have e : (if b = true then kidMark R [] else R) = R := by cases b <;> rfl
    rw [e]
    clear hk e hb
    simp only [vP]
    refine lpW true (fun _ => W15.2) W15.1 rfl fun c hl => ?_; simp only [subR, chi, okW, List.length_cons, List.length_nil, Nat.reduceAdd, firstReg, and_true] at c hl; (try simp (maxSteps := 4000000) (disch := first | assumption | omega) only [go_sem, *, vP, hg, GNode.enc, pairsOk, ↓bin_eqI, ↓bin_neI, Nat.reduceAdd, Nat.reduceSub, Nat.reduceMul, Nat.reduceBEq, Nat.reduceLeDiff, Nat.reduceLT, Nat.reduceDiv, Nat.reduceMod, drwK_some, disj, ordered, ancs]); repeat' ((first | with_reducible first | refine caK (fun hb => ?_) fun hb => ?_ | refine caG (fun hb => ?_) fun hb => ?_ | refine caP (fun hb => ?_) fun hb => ?_ | refine caH (fun hb => ?_) fun hb => ?_ | refine caQ (fun hb => ?_) fun hb => ?_ | refine ite_cases (fun hb => ?_) fun hb => ?_) <;> try simp (maxSteps := 4000000) (disch := first | assumption | omega) only [go_sem, *, vP, hg, GNode.enc, pairsOk, ↓bin_eqI, ↓bin_neI, Nat.reduceAdd, Nat.reduceSub, Nat.reduceMul, Nat.reduceBEq, Nat.reduceLeDiff, Nat.reduceLT, Nat.reduceDiv, Nat.reduceMod, drwK_some, disj, ordered, ancs])
  | m + 1, j, R, h0, hm, hl, hb => by
    have : maxLen = 9223372036854775807 := rfl
    have g2 : (rB R)[i.toNat]? = some [.v (.bool (b))] := by simp [rB, hb]
    cases b with
    | false =>
      clear hk hb
      simp only [Bool.false_eq_true, if_false, vP]
      refine lpW true (fun _ => W15.2) W15.1 rfl fun c hl => ?_; simp only [subR, chi, okW, List.length_cons, List.length_nil, Nat.reduceAdd, firstReg, and_true] at c hl; (try simp (maxSteps := 4000000) (disch := first | assumption | omega) only [go_sem, *, vP, hg, GNode.enc, g2, pairsOk, ↓bin_eqI, ↓bin_neI, Nat.reduceAdd, Nat.reduceSub, Nat.reduceMul, Nat.reduceBEq, Nat.reduceLeDiff, Nat.reduceLT, Nat.reduceDiv, Nat.reduceMod, drwK_some, disj, ordered, ancs]); repeat' ((first | with_reducible first | refine caK (fun hb => ?_) fun hb => ?_ | refine caG (fun hb => ?_) fun hb => ?_ | refine caP (fun hb => ?_) fun hb => ?_ | refine caH (fun hb => ?_) fun hb => ?_ | refine caQ (fun hb => ?_) fun hb => ?_ | refine ite_cases (fun hb => ?_) fun hb => ?_) <;> try simp (maxSteps := 4000000) (disch := first | assumption | omega) only [go_sem, *, vP, hg, GNode.enc, g2, pairsOk, ↓bin_eqI, ↓bin_neI, Nat.reduceAdd, Nat.reduceSub, Nat.reduceMul, Nat.reduceBEq, Nat.reduceLeDiff, Nat.reduceLT, Nat.reduceDiv, Nat.reduceMod, drwK_some, disj, ordered, ancs])
    | true =>
      have hd := drop_at x.Kids j (by omega)
      obtain ⟨k1, k2⟩ := hk x.Kids[j.toNat] (List.getElem_mem _)
      have hgk : (x.Kids.map fun y => [D.v (.int .i64 y)])[j.toNat]? = some [D.v (.int .i64 x.Kids[j.toNat])] := map_get x.Kids _ _ (by omega)
      rw [hd]
      clear hd
      generalize x.Kids[j.toNat] = k at k1 k2 hgk ⊢
      have hkl : k.toNat < R.length := by omega
      have ih := sreach_inner p i n hi x hg true hx hk m (j + 1) (R.set k.toNat true) (by omega) (by omega) (by simpa using hl) (by rw [List.getElem?_set_ne (by omega)]; exact hb)
      have g1 : (rB R)[k.toNat]? = some [.v (.bool (R[k.toNat]))] := map_get R _ _ hkl
      have e : (if true = true then kidMark R (k :: x.Kids.drop (j + 1).toNat) else R) = (if true = true then kidMark (R.set k.toNat true) (x.Kids.drop (j + 1).toNat) else R.set k.toNat true) := by simp [kidMark]
      rw [e]
      clear hk hb e
      simp only [vP] at ih ⊢
      refine lpW true (fun _ => W15.2) W15.1 rfl fun c hl => ?_; simp only [subR, chi, okW, List.length_cons, List.length_nil, Nat.reduceAdd, firstReg, and_true] at c hl; (try simp (maxSteps := 4000000) (disch := first | assumption | omega) only [go_sem, *, vP, hg, GNode.enc, hgk, g1, g2, rB_set, pairsOk, ↓bin_eqI, ↓bin_neI, Nat.reduceAdd, Nat.reduceSub, Nat.reduceMul, Nat.reduceBEq, Nat.reduceLeDiff, Nat.reduceLT, Nat.reduceDiv, Nat.reduceMod, drwK_some, disj, ordered, ancs]); repeat' ((first | with_reducible first | refine caK (fun hb => ?_) fun hb => ?_ | refine caG (fun hb => ?_) fun hb => ?_ | refine caP (fun hb => ?_) fun hb => ?_ | refine caH (fun hb => ?_) fun hb => ?_ | refine caQ (fun hb => ?_) fun hb => ?_ | refine ite_cases (fun hb => ?_) fun hb => ?_) <;> try simp (maxSteps := 4000000) (disch := first | assumption | omega) only [go_sem, *, vP, hg, GNode.enc, hgk, g1, g2, rB_set, pairsOk, ↓bin_eqI, ↓bin_neI, Nat.reduceAdd, Nat.reduceSub, Nat.reduceMul, Nat.reduceBEq, Nat.reduceLeDiff, Nat.reduceLT, Nat.reduceDiv, Nat.reduceMod, drwK_some, disj, ordered, ancs])
theorem sreach_outer (p : GProgram) (n : Nat) (hn : p.Nodes.length = n) (hm : n ≤ 200) (hK : KidsIn p) : ∀ (i : Nat) (R : List Bool), i ≤ n → R.length = n →
    loopC Try.prog T (fnL Try.prog T L0) 15 (cq Try.f15 [0, 0, 1, 0, 1, 1, 1]) ⟨[J, .one (.c (.ptr 0 0 0)), J, .one (.c (.arr 1 0 n)), J, .one (.c (.d (.v (.int .i64 ((i : Int) - 1))))), J, J, J, J, J, J, J, J, J, J, J, J, J, J, J, J, J, J, J, J, J, J, J, J, J, J, J, J, J, J, J, J, J, J, J, J, J, J, J, J, J, J, J, J, J, J, J, J, J, J, J, J, J, J, J, J, J, J, J, J, J, J, J, J, J, J, J, J, J, J, J, J], hpOf [vP p, some (.arr 1 (rB R))], 2, 0⟩ =
      some (.exit 2, ⟨[J, J, J, .one (.c (.arr 0 0 n)), J, J, J, J, J, J, J, J, J, J, J, J, J, J, J, J, J, J, J, J, J, J, J, J, J, J, J, J, J, J, J, J, J, J, J, J, J, J, J, J, J, J, J, J, J, J, J, J, J, J, J, J, J, J, J, J, J, J, J, J, J, J, J, J, J, J, J, J, J, J, J, J, J, J], hpOf [some (.arr 1 (rB (nodeMark p i R)))], 1, 0⟩)
  | 0, R, hi, hl => by
    clear hK
    rw [nodeMark]
    simp only [vP]
    refine lpW true (fun _ => W15.2) W15.1 rfl fun c hl => ?_; simp only [subR, chi, okW, List.length_cons, List.length_nil, Nat.reduceAdd, firstReg, and_true] at c hl; (try simp (maxSteps := 4000000) (disch := first | assumption | omega) only [go_sem, *, vP, pairsOk, ↓bin_eqI, ↓bin_neI, Nat.reduceAdd, Nat.reduceSub, Nat.reduceMul, Nat.reduceBEq, Nat.reduceLeDiff, Nat.reduceLT, Nat.reduceDiv, Nat.reduceMod, drwK_some, disj, ordered, ancs]); repeat' ((first | with_reducible first | refine caK (fun hb => ?_) fun hb => ?_ | refine caG (fun hb => ?_) fun hb => ?_ | refine caP (fun hb => ?_) fun hb => ?_ | refine caH (fun hb => ?_) fun hb => ?_ | refine caQ (fun hb => ?_) fun hb => ?_ | refine ite_cases (fun hb => ?_) fun hb => ?_) <;> try simp (maxSteps := 4000000) (disch := first | assumption | omega) only [go_sem, *, vP, pairsOk, ↓bin_eqI, ↓bin_neI, Nat.reduceAdd, Nat.reduceSub, Nat.reduceMul, Nat.reduceBEq, Nat.reduceLeDiff, Nat.reduceLT, Nat.reduceDiv, Nat.reduceMod, drwK_some, disj, ordered, ancs])
  | i + 1, R, hi, hl => by
    have hil : i < p.Nodes.length := by omega
    have hg : (rN p.Nodes)[(i : Int).toNat]? = some (GNode.enc p.Nodes[i]) := rN_get _ _ hil
    obtain ⟨hkl, hk⟩ := hK i p.Nodes[i] (List.getElem?_eq_getElem hil)
    have hka : kidsAt p i = p.Nodes[i].Kids := by unfold kidsAt; rw [List.getElem?_eq_getElem hil]
    obtain ⟨b, hb⟩ : ∃ b, R[i]? = some b := ⟨_, List.getElem?_eq_getElem (by omega)⟩
    have L := sreach_inner p i n ⟨by omega, by omega⟩ p.Nodes[i] hg b hkl hk p.Nodes[i].Kids.length 0 R (by omega) (by omega) hl (by simpa using hb)
    have hR1 : (if R[i]? = some true then kidMark R (kidsAt p i) else R) = (if b = true then kidMark R p.Nodes[i].Kids else R) := by rw [hb, hka]; cases b <;> simp
    have ih := sreach_outer p n hn hm hK i (if R[i]? = some true then kidMark R (kidsAt p i) else R) (by omega) (by split <;> simp [kidMark_len, hl])
    rw [nodeMark]
    rw [hR1] at ih ⊢
    rw [Int.toNat_zero, List.drop_zero] at L
    generalize (if b = true then kidMark R p.Nodes[i].Kids else R) = R1 at L ih ⊢
    have e1 : ((i + 1 : Nat) : Int) - 1 = (i : Int) := by omega
    rw [e1]
    simp only [vP] at L ih ⊢
    clear hK hk hka hb hR1 hg
    refine lpW true (fun _ => W15.2) W15.1 rfl fun c hl => ?_; simp only [subR, chi, okW, List.length_cons, List.length_nil, Nat.reduceAdd, firstReg, and_true] at c hl; (try simp (maxSteps := 4000000) (disch := first | assumption | omega) only [go_sem, *, vP, L, pairsOk, ↓bin_eqI, ↓bin_neI, Nat.reduceAdd, Nat.reduceSub, Nat.reduceMul, Nat.reduceBEq, Nat.reduceLeDiff, Nat.reduceLT, Nat.reduceDiv, Nat.reduceMod, drwK_some, disj, ordered, ancs]); repeat' ((first | with_reducible first | refine caK (fun hb => ?_) fun hb => ?_ | refine caG (fun hb => ?_) fun hb => ?_ | refine caP (fun hb => ?_) fun hb => ?_ | refine caH (fun hb => ?_) fun hb => ?_ | refine caQ (fun hb => ?_) fun hb => ?_ | refine ite_cases (fun hb => ?_) fun hb => ?_) <;> try simp (maxSteps := 4000000) (disch := first | assumption | omega) only [go_sem, *, vP, L, pairsOk, ↓bin_eqI, ↓bin_neI, Nat.reduceAdd, Nat.reduceSub, Nat.reduceMul, Nat.reduceBEq, Nat.reduceLeDiff, Nat.reduceLT, Nat.reduceDiv, Nat.reduceMod, drwK_some, disj, ordered, ancs])
theorem sreach_rules (p : GProgram) (n : Nat) (hn : p.Nodes.length = n) (hm : n ≤ 200) (hr : p.Rules.length ≤ 12) (hD : ∀ r ∈ p.Rules, (0 ≤ r.Do ∧ r.Do < n) ∧ r.If < n) : ∀ (m : Nat) (j : Int) (R : List Bool), 0 ≤ j → j + m = p.Rules.length → R.length = n →
    loopC Try.prog T (fnL Try.prog T L0) 15 (cq Try.f15 [0, 0, 1, 0, 1, 1]) ⟨[J, .one (.c (.ptr 0 0 0)), J, .one (.c (.arr 1 0 n)), .one (.c (.d (.v (.int .i64 (j))))), J, J, J, J, J, J, J, J, J, J, J, J, J, J, J, J, J, J, J, J, J, J, J, J, J, J, J, J, J, J, J, J, J, J, J, J, J, J, J, J, J, J, J, J, J, J, J, J, J, J, J, J, J, J, J, J, J, J, J, J, J, J, J, J, J, J, J, J, J, J, J, J, J], hpOf [vP p, some (.arr 1 (rB R))], 2, 0⟩ =
      some (.exit 0, ⟨[J, .one (.c (.ptr 0 0 0)), J, .one (.c (.arr 1 0 n)), J, J, J, J, J, J, J, J, J, J, J, J, J, J, J, J, J, J, J, J, J, J, J, J, J, J, J, J, J, J, J, J, J, J, J, J, J, J, J, J, J, J, J, J, J, J, J, J, J, J, J, J, J, J, J, J, J, J, J, J, J, J, J, J, J, J, J, J, J, J, J, J, J, J], hpOf [vP p, some (.arr 1 (rB ((p.Rules.drop j.toNat).foldl ruleMark R)))], 2, 0⟩)
  | 0, j, R, h0, hj, hl => by
    rw [drop_end p.Rules j (by omega), List.foldl_nil]
    clear hD
    simp only [vP]
    refine lpW true (fun _ => W15.2) W15.1 rfl fun c hl => ?_; simp only [subR, chi, okW, List.length_cons, List.length_nil, Nat.reduceAdd, firstReg, and_true] at c hl; (try simp (maxSteps := 4000000) (disch := first | assumption | omega) only [go_sem, *, vP, rR_len, pairsOk, ↓bin_eqI, ↓bin_neI, Nat.reduceAdd, Nat.reduceSub, Nat.reduceMul, Nat.reduceBEq, Nat.reduceLeDiff, Nat.reduceLT, Nat.reduceDiv, Nat.reduceMod, drwK_some, disj, ordered, ancs]); repeat' ((first | with_reducible first | refine caK (fun hb => ?_) fun hb => ?_ | refine caG (fun hb => ?_) fun hb => ?_ | refine caP (fun hb => ?_) fun hb => ?_ | refine caH (fun hb => ?_) fun hb => ?_ | refine caQ (fun hb => ?_) fun hb => ?_ | refine ite_cases (fun hb => ?_) fun hb => ?_) <;> try simp (maxSteps := 4000000) (disch := first | assumption | omega) only [go_sem, *, vP, rR_len, pairsOk, ↓bin_eqI, ↓bin_neI, Nat.reduceAdd, Nat.reduceSub, Nat.reduceMul, Nat.reduceBEq, Nat.reduceLeDiff, Nat.reduceLT, Nat.reduceDiv, Nat.reduceMod, drwK_some, disj, ordered, ancs])
  | m + 1, j, R, h0, hj, hl => by
    have hjl : j.toNat < p.Rules.length := by omega
    have hd := drop_at p.Rules j (by omega)
    have hg := rR_get p.Rules j.toNat hjl
    obtain ⟨⟨d1, d2⟩, d3⟩ := hD p.Rules[j.toNat] (List.getElem_mem _)
    rw [hd, List.foldl_cons]
    clear hd
    generalize p.Rules[j.toNat] = r at hg d1 d2 d3 ⊢
    have ih := sreach_rules p n hn hm hr hD m (j + 1) (ruleMark R r) (by omega) (by omega) (by rw [ruleMark_len]; exact hl)
    have g1 : (rB R)[r.Do.toNat]? = some [.v (.bool (R[r.Do.toNat]'(by omega)))] := map_get R _ _ (by omega)
    clear hD
    by_cases hi : 0 ≤ r.If
    · have g2 : (rB (R.set r.Do.toNat true))[r.If.toNat]? = some [.v (.bool ((R.set r.Do.toNat true)[r.If.toNat]'(by simp; omega)))] := map_get (R.set r.Do.toNat true) _ _ (by simp; omega)
      have e : ruleMark R r = (R.set r.Do.toNat true).set r.If.toNat true := by unfold ruleMark; rw [if_pos hi]
      rw [e] at ih ⊢
      clear e
      simp only [vP] at ih ⊢
      refine lpW true (fun _ => W15.2) W15.1 rfl fun c hl => ?_; simp only [subR, chi, okW, List.length_cons, List.length_nil, Nat.reduceAdd, firstReg, and_true] at c hl; (try simp (maxSteps := 4000000) (disch := first | assumption | omega) only [go_sem, *, vP, hg, GRule.enc, g1, g2, rB_set, rR_len, pairsOk, ↓bin_eql, ↓bin_neq, Nat.reduceAdd, Nat.reduceSub, Nat.reduceMul, Nat.reduceBEq, Nat.reduceLeDiff, Nat.reduceLT, Nat.reduceDiv, Nat.reduceMod, drwK_some, disj, ordered, ancs]); repeat' ((first | with_reducible first | refine caK (fun hb => ?_) fun hb => ?_ | refine caG (fun hb => ?_) fun hb => ?_ | refine caP (fun hb => ?_) fun hb => ?_ | refine caH (fun hb => ?_) fun hb => ?_ | refine caQ (fun hb => ?_) fun hb => ?_ | refine ite_cases (fun hb => ?_) fun hb => ?_) <;> try simp (maxSteps := 4000000) (disch := first | assumption | omega) only [go_sem, *, vP, hg, GRule.enc, g1, g2, rB_set, rR_len, pairsOk, ↓bin_eql, ↓bin_neq, Nat.reduceAdd, Nat.reduceSub, Nat.reduceMul, Nat.reduceBEq, Nat.reduceLeDiff, Nat.reduceLT, Nat.reduceDiv, Nat.reduceMod, drwK_some, disj, ordered, ancs])
    · have e : ruleMark R r = R.set r.Do.toNat true := by unfold ruleMark; rw [if_neg hi]
      rw [e] at ih ⊢
      clear e
      simp only [vP] at ih ⊢
      refine lpW true (fun _ => W15.2) W15.1 rfl fun c hl => ?_; simp only [subR, chi, okW, List.length_cons, List.length_nil, Nat.reduceAdd, firstReg, and_true] at c hl; (try simp (maxSteps := 4000000) (disch := first | assumption | omega) only [go_sem, *, vP, hg, GRule.enc, g1, rB_set, rR_len, pairsOk, ↓bin_eql, ↓bin_neq, Nat.reduceAdd, Nat.reduceSub, Nat.reduceMul, Nat.reduceBEq, Nat.reduceLeDiff, Nat.reduceLT, Nat.reduceDiv, Nat.reduceMod, drwK_some, disj, ordered, ancs]); repeat' ((first | with_reducible first | refine caK (fun hb => ?_) fun hb => ?_ | refine caG (fun hb => ?_) fun hb => ?_ | refine caP (fun hb => ?_) fun hb => ?_ | refine caH (fun hb => ?_) fun hb => ?_ | refine caQ (fun hb => ?_) fun hb => ?_ | refine ite_cases (fun hb => ?_) fun hb => ?_) <;> try simp (maxSteps := 4000000) (disch := first | assumption | omega) only [go_sem, *, vP, hg, GRule.enc, g1, rB_set, rR_len, pairsOk, ↓bin_eql, ↓bin_neq, Nat.reduceAdd, Nat.reduceSub, Nat.reduceMul, Nat.reduceBEq, Nat.reduceLeDiff, Nat.reduceLT, Nat.reduceDiv, Nat.reduceMod, drwK_some, disj, ordered, ancs])
theorem l18Reach_ok (p : GProgram) (h : Fine p) : fnL Try.prog T L0 15 [.agg (p.enc.map .d)] [] = some (.one (.c (.d (.sl 1 (rB (reachL p))))), []) := by
  obtain ⟨h1, h2, h3, h4⟩ := h
  have L1 := sreach_rules p p.Nodes.length rfl h1 h2 h4 p.Rules.length 0 (List.replicate p.Nodes.length false) (by omega) (by omega) (by simp)
  have L2 := sreach_outer p p.Nodes.length rfl h1 h3 p.Nodes.length (p.Rules.foldl ruleMark (List.replicate p.Nodes.length false)) (Nat.le_refl _) (by rw [rules_len]; simp)
  have hl := reachL_len p
  rw [Int.toNat_zero, List.drop_zero] at L1
  unfold reachL at hl ⊢
  generalize nodeMark p p.Nodes.length (p.Rules.foldl ruleMark (List.replicate p.Nodes.length false)) = R2 at L2 hl ⊢
  generalize p.Rules.foldl ruleMark (List.replicate p.Nodes.length false) = R1 at L1 L2
  have hroom : room = 70368744177664 := rfl
  clear h3 h4
  have hcast : ((p.Nodes.length : Int)).toNat = p.Nodes.length := by omega
  simp only [vP] at L1 L2
  refine nfW true (fun _ => W15.2) W15.1 Try.func15 rfl rfl fun c ht hr => ?_; simp only [okW, List.length_cons, List.length_nil, Nat.reduceAdd, firstReg, and_true] at c; (try simp (maxSteps := 4000000) (disch := first | assumption | omega) only [go_sem, *, encP, rN_len, rR_len, rB_rep, L1, L2, rB_take, pairsOk, ↓bin_eqI, ↓bin_neI, Nat.reduceAdd, Nat.reduceSub, Nat.reduceMul, Nat.reduceBEq, Nat.reduceLeDiff, Nat.reduceLT, Nat.reduceDiv, Nat.reduceMod, drwK_some, disj, ordered, ancs]); repeat' ((first | with_reducible first | refine caK (fun hb => ?_) fun hb => ?_ | refine caG (fun hb => ?_) fun hb => ?_ | refine caP (fun hb => ?_) fun hb => ?_ | refine caH (fun hb => ?_) fun hb => ?_ | refine caQ (fun hb => ?_) fun hb => ?_ | refine ite_cases (fun hb => ?_) fun hb => ?_) <;> try simp (maxSteps := 4000000) (disch := first | assumption | omega) only [go_sem, *, encP, rN_len, rR_len, rB_rep, L1, L2, rB_take, pairsOk, ↓bin_eqI, ↓bin_neI, Nat.reduceAdd, Nat.reduceSub, Nat.reduceMul, Nat.reduceBEq, Nat.reduceLeDiff, Nat.reduceLT, Nat.reduceDiv, Nat.reduceMod, drwK_some, disj, ordered, ancs])
def cntL : List Bool → Int
  | [] => 0
  | b :: bs => (if b = true then 1 else 0) + cntL bs
theorem rB_get (R : List Bool) (i : Nat) (h : i < R.length) : (rB R)[i]? = some [.v (.bool (R[i]))] := map_get R _ i h
theorem nodesOK_get (rd : List UInt8 → Bool) (p : GProgram) : ∀ (xs : List GNode) (i : Int), nodesOK rd p xs i = true → ∀ (j : Nat) (x : GNode), xs[j]? = some x → nodeOK rd p x (i + j) = true
  | [], i, h, j, x, hx => by simp at hx
  | y :: ys, i, h, j, x, hx => by
    rw [nodesOK, Bool.and_eq_true] at h
    cases j with
    | zero => simp at hx; subst hx; simpa using h.1
    | succ j =>
      have := nodesOK_get rd p ys (i + 1) h.2 j x (by simpa using hx)
      rw [show i + ((j + 1 : Nat) : Int) = i + 1 + (j : Int) by omega]
      exact this
theorem fine_of (rd : List UInt8 → Bool) (p : GProgram) (hp : p.ok) (h : progOK rd p = true) : Fine p := by
  unfold progOK at h
  simp only [Bool.and_eq_true, decide_eq_true_eq] at h
  obtain ⟨⟨⟨h1, h2⟩, h3⟩, h4⟩ := h
  refine ⟨by omega, by omega, fun i x hx => ?_, fun r hr => ?_⟩
  · have hn := nodesOK_get rd p p.Nodes 0 h1 i x hx
    unfold nodeOK at hn
    simp only [Bool.and_eq_true, decide_eq_true_eq, List.all_eq_true] at hn
    obtain ⟨⟨⟨_, hk⟩, _⟩, _⟩ := hn
    refine ⟨(hp.1.2 x (List.mem_of_getElem? hx)).2.2.1, fun k hk' => ?_⟩
    have := hk k hk'
    omega
  · have hr2 := List.all_eq_true.1 h2 r hr
    unfold ruleOK at hr2
    simp only [Bool.and_eq_true, Bool.or_eq_true, decide_eq_true_eq] at hr2
    obtain ⟨⟨⟨_, hd⟩, _⟩, hi⟩ := hr2
    refine ⟨by omega, ?_⟩
    rcases hi with hi | hi
    · omega
    · omega
def sizeL (rd : List UInt8 → Bool) (p : GProgram) : Int := if progOK rd p = true then cntL (reachL p) else 0
/-! The statement's own functions: measured, turned, held against itself -/
def szI (xs : List Int) (left : Int) : Int := if left - xs.length < 0 then -1 else left - xs.length
theorem szIntS_ok (xs : List Int) (left : Int) (h : 0 ≤ left ∧ left ≤ 1048576) (hm : xs.length ≤ maxLen) : fnL Try.prog T L0 44 [.c (.d (.sl 1 (rI xs))), .c (.d (.v (.int .i64 (left))))] [] = some (.one (.c (.d (.v (.int .i64 (szI xs left))))), []) := by
  have : maxLen = 9223372036854775807 := rfl
  have hl : (rI xs).length = xs.length := by simp [rI]
  unfold szI
  exact fns W44 Try.func44
def szN (x : GNode) (left : Int) : Int := if left - x.Text.length < 0 then -1 else szI x.Kids (left - x.Text.length)
theorem szI_le (xs : List Int) (left : Int) (h : 0 ≤ left) : szI xs left ≤ left ∧ -1 ≤ szI xs left := by unfold szI; split <;> omega
theorem szN_le (x : GNode) (left : Int) (h : 0 ≤ left) : szN x left ≤ left ∧ -1 ≤ szN x left := by
  unfold szN
  split
  · omega
  · have := szI_le x.Kids (left - x.Text.length) (by omega)
    omega
theorem szNode_ok (x : GNode) (left : Int) (h : 0 ≤ left ∧ left ≤ 1048576) (ht : x.Text.length ≤ maxLen) (hk : x.Kids.length ≤ maxLen) : fnL Try.prog T L0 27 [.agg (x.enc.map .d), .c (.d (.v (.int .i64 (left))))] [] = some (.one (.c (.d (.v (.int .i64 (szN x left))))), []) := by
  have : maxLen = 9223372036854775807 := rfl
  have hs := fun h1 h2 => szIntS_ok x.Kids (left - x.Text.length) ⟨h1, h2⟩ hk
  have hle := fun h1 => szI_le x.Kids (left - x.Text.length) h1
  unfold szN
  simp only [rI] at hs
  by_cases hlt : left - (x.Text.length : Int) < 0
  · simp only [if_pos hlt]
    clear hs hle
    refine nfW true (fun _ => W27.2) W27.1 Try.func27 rfl rfl fun c ht hr => ?_; simp only [okW, List.length_cons, List.length_nil, Nat.reduceAdd, firstReg, and_true] at c; (try simp (maxSteps := 4000000) (disch := first | assumption | omega) only [go_sem, *, encN, rI, GNode.enc, pairsOk, ↓bin_eql, ↓bin_neq, Nat.reduceAdd, Nat.reduceSub, Nat.reduceMul, Nat.reduceBEq, Nat.reduceLeDiff, Nat.reduceLT, Nat.reduceDiv, Nat.reduceMod, drwK_some, disj, ordered, ancs]); repeat' ((first | with_reducible first | refine caK (fun hb => ?_) fun hb => ?_ | refine caG (fun hb => ?_) fun hb => ?_ | refine caP (fun hb => ?_) fun hb => ?_ | refine caH (fun hb => ?_) fun hb => ?_ | refine caQ (fun hb => ?_) fun hb => ?_ | refine ite_cases (fun hb => ?_) fun hb => ?_) <;> try simp (maxSteps := 4000000) (disch := first | assumption | omega) only [go_sem, *, encN, rI, GNode.enc, pairsOk, ↓bin_eql, ↓bin_neq, Nat.reduceAdd, Nat.reduceSub, Nat.reduceMul, Nat.reduceBEq, Nat.reduceLeDiff, Nat.reduceLT, Nat.reduceDiv, Nat.reduceMod, drwK_some, disj, ordered, ancs])
  · simp only [if_neg hlt]
    replace hs := hs (by omega) (by omega)
    obtain ⟨l1, l2⟩ := hle (by omega)
    clear hle
    generalize szI x.Kids (left - x.Text.length) = r at hs l1 l2 ⊢
    refine nfW true (fun _ => W27.2) W27.1 Try.func27 rfl rfl fun c ht hr => ?_; simp only [okW, List.length_cons, List.length_nil, Nat.reduceAdd, firstReg, and_true] at c; (try simp (maxSteps := 4000000) (disch := first | assumption | omega) only [go_sem, *, encN, rI, GNode.enc, hs, pairsOk, ↓bin_eql, ↓bin_neq, Nat.reduceAdd, Nat.reduceSub, Nat.reduceMul, Nat.reduceBEq, Nat.reduceLeDiff, Nat.reduceLT, Nat.reduceDiv, Nat.reduceMod, drwK_some, disj, ordered, ancs]); repeat' ((first | with_reducible first | refine caK (fun hb => ?_) fun hb => ?_ | refine caG (fun hb => ?_) fun hb => ?_ | refine caP (fun hb => ?_) fun hb => ?_ | refine caH (fun hb => ?_) fun hb => ?_ | refine caQ (fun hb => ?_) fun hb => ?_ | refine ite_cases (fun hb => ?_) fun hb => ?_) <;> try simp (maxSteps := 4000000) (disch := first | assumption | omega) only [go_sem, *, encN, rI, GNode.enc, hs, pairsOk, ↓bin_eql, ↓bin_neq, Nat.reduceAdd, Nat.reduceSub, Nat.reduceMul, Nat.reduceBEq, Nat.reduceLeDiff, Nat.reduceLT, Nat.reduceDiv, Nat.reduceMod, drwK_some, disj, ordered, ancs])
    all_goals first | rfl | (congr 7; omega)
def szNs : List GNode → Int → Int
  | [], l => l
  | x :: xs, l => if szN x l < 0 then -1 else szNs xs (szN x l)
theorem szNs_le : ∀ (xs : List GNode) (l : Int), 0 ≤ l → szNs xs l ≤ l ∧ -1 ≤ szNs xs l
  | [], l, h => by unfold szNs; omega
  | x :: xs, l, h => by
    have h1 := szN_le x l h
    unfold szNs
    split
    · omega
    · have := szNs_le xs (szN x l) (by omega)
      omega
theorem szNodeS_loop (xs : List GNode) (hx : xs.length ≤ 1048576) (hok : ∀ x ∈ xs, x.Text.length ≤ maxLen ∧ x.Kids.length ≤ maxLen) : ∀ (m : Nat) (i l : Int), 0 ≤ i → i + m = xs.length → 0 ≤ l ∧ l ≤ 1048576 →
    loopC Try.prog T (fnL Try.prog T L0) 11 (cq Try.f11 [0, 0, 1, 0, 1, 1, 1]) ⟨[.one (.c (.d (.sl 3 (rN xs)))), .one (.c (.d (.v (.int .i64 (l))))), J, J, J, .one (.c (.d (.v (.int .i64 (i))))), J, J, J, J, J, J, J, J, J, J, J, J, J, J, J, J, J, J, J, J, J], hpOf [], 0, 0⟩ =
      if szNs (xs.drop i.toNat) l < 0 then some (.ret, ⟨[J, .one (.c (.d (.v (.int .i64 (-1))))), J, J, .one (.c (.d (.v (.int .i64 (-1))))), J, J, J, J, J, J, J, J, J, J, J, J, J, J, J, J, J, J, J, J, J, J], hpOf [], 0, 0⟩) else some (.exit 0, ⟨[J, .one (.c (.d (.v (.int .i64 (szNs (xs.drop i.toNat) l))))), J, J, J, J, J, J, J, J, J, J, J, J, J, J, J, J, J, J, J, J, J, J, J, J, J], hpOf [], 0, 0⟩)
  | 0, i, l, h0, hm, hl => by
    rw [drop_end xs i (by omega), szNs, if_neg (by omega)]
    clear hok
    refine lpW true (fun _ => W11.2) W11.1 rfl fun c hl => ?_; simp only [subR, chi, okW, List.length_cons, List.length_nil, Nat.reduceAdd, firstReg, and_true] at c hl; (try simp (maxSteps := 4000000) (disch := first | assumption | omega) only [go_sem, *, rN_len, pairsOk, ↓bin_eql, ↓bin_neq, Nat.reduceAdd, Nat.reduceSub, Nat.reduceMul, Nat.reduceBEq, Nat.reduceLeDiff, Nat.reduceLT, Nat.reduceDiv, Nat.reduceMod, drwK_some, disj, ordered, ancs]); repeat' ((first | with_reducible first | refine caK (fun hb => ?_) fun hb => ?_ | refine caG (fun hb => ?_) fun hb => ?_ | refine caP (fun hb => ?_) fun hb => ?_ | refine caH (fun hb => ?_) fun hb => ?_ | refine caQ (fun hb => ?_) fun hb => ?_ | refine ite_cases (fun hb => ?_) fun hb => ?_) <;> try simp (maxSteps := 4000000) (disch := first | assumption | omega) only [go_sem, *, rN_len, pairsOk, ↓bin_eql, ↓bin_neq, Nat.reduceAdd, Nat.reduceSub, Nat.reduceMul, Nat.reduceBEq, Nat.reduceLeDiff, Nat.reduceLT, Nat.reduceDiv, Nat.reduceMod, drwK_some, disj, ordered, ancs])
  | m + 1, i, l, h0, hm, hl => by
    have hil : i.toNat < xs.length := by omega
    have hd := drop_at xs i (by omega)
    have hg := rN_get xs i.toNat hil
    obtain ⟨ht, hk⟩ := hok xs[i.toNat] (List.getElem_mem _)
    rw [hd, szNs]
    clear hd
    generalize xs[i.toNat] = x at hg ht hk ⊢
    have hs := szNode_ok x l hl ht hk
    obtain ⟨l1, l2⟩ := szN_le x l hl.1
    simp only [encN, rI] at hs
    by_cases hn : szN x l < 0
    · have e : szN x l = -1 := by omega
      rw [e] at hs
      rw [if_pos hn, if_pos (by omega)]
      clear hok
      refine lpW true (fun _ => W11.2) W11.1 rfl fun c hl => ?_; simp only [subR, chi, okW, List.length_cons, List.length_nil, Nat.reduceAdd, firstReg, and_true] at c hl; (try simp (maxSteps := 4000000) (disch := first | assumption | omega) only [go_sem, *, rN_len, hg, GNode.enc, hs, pairsOk, ↓bin_eql, ↓bin_neq, Nat.reduceAdd, Nat.reduceSub, Nat.reduceMul, Nat.reduceBEq, Nat.reduceLeDiff, Nat.reduceLT, Nat.reduceDiv, Nat.reduceMod, drwK_some, disj, ordered, ancs]); repeat' ((first | with_reducible first | refine caK (fun hb => ?_) fun hb => ?_ | refine caG (fun hb => ?_) fun hb => ?_ | refine caP (fun hb => ?_) fun hb => ?_ | refine caH (fun hb => ?_) fun hb => ?_ | refine caQ (fun hb => ?_) fun hb => ?_ | refine ite_cases (fun hb => ?_) fun hb => ?_) <;> try simp (maxSteps := 4000000) (disch := first | assumption | omega) only [go_sem, *, rN_len, hg, GNode.enc, hs, pairsOk, ↓bin_eql, ↓bin_neq, Nat.reduceAdd, Nat.reduceSub, Nat.reduceMul, Nat.reduceBEq, Nat.reduceLeDiff, Nat.reduceLT, Nat.reduceDiv, Nat.reduceMod, drwK_some, disj, ordered, ancs])
    · have ih := szNodeS_loop xs hx hok m (i + 1) (szN x l) (by omega) (by omega) (by omega)
      rw [if_neg hn]
      generalize szN x l = r at hs hn l1 l2 ih ⊢
      rw [← ih]
      clear ih hok
      refine lpW true (fun _ => W11.2) W11.1 rfl fun c hl => ?_; simp only [subR, chi, okW, List.length_cons, List.length_nil, Nat.reduceAdd, firstReg, and_true] at c hl; (try simp (maxSteps := 4000000) (disch := first | assumption | omega) only [go_sem, *, rN_len, hg, GNode.enc, hs, pairsOk, ↓bin_eql, ↓bin_neq, Nat.reduceAdd, Nat.reduceSub, Nat.reduceMul, Nat.reduceBEq, Nat.reduceLeDiff, Nat.reduceLT, Nat.reduceDiv, Nat.reduceMod, drwK_some, disj, ordered, ancs]); repeat' ((first | with_reducible first | refine caK (fun hb => ?_) fun hb => ?_ | refine caG (fun hb => ?_) fun hb => ?_ | refine caP (fun hb => ?_) fun hb => ?_ | refine caH (fun hb => ?_) fun hb => ?_ | refine caQ (fun hb => ?_) fun hb => ?_ | refine ite_cases (fun hb => ?_) fun hb => ?_) <;> try simp (maxSteps := 4000000) (disch := first | assumption | omega) only [go_sem, *, rN_len, hg, GNode.enc, hs, pairsOk, ↓bin_eql, ↓bin_neq, Nat.reduceAdd, Nat.reduceSub, Nat.reduceMul, Nat.reduceBEq, Nat.reduceLeDiff, Nat.reduceLT, Nat.reduceDiv, Nat.reduceMod, drwK_some, disj, ordered, ancs])
theorem szNodeS_ok (xs : List GNode) (l : Int) (hl : 0 ≤ l ∧ l ≤ 1048576) (hx : xs.length ≤ maxLen) (hok : ∀ x ∈ xs, x.Text.length ≤ maxLen ∧ x.Kids.length ≤ maxLen) : fnL Try.prog T L0 11 [.c (.d (.sl 3 (rN xs))), .c (.d (.v (.int .i64 (l))))] [] = some (.one (.c (.d (.v (.int .i64 (if l - xs.length < 0 then -1 else szNs xs (l - xs.length)))))), []) := by
  have : maxLen = 9223372036854775807 := rfl
  by_cases h : l - (xs.length : Int) < 0
  · rw [if_pos h]
    clear hok
    refine nfW true (fun _ => W11.2) W11.1 Try.func11 rfl rfl fun c ht hr => ?_; simp only [okW, List.length_cons, List.length_nil, Nat.reduceAdd, firstReg, and_true] at c; (try simp (maxSteps := 4000000) (disch := first | assumption | omega) only [go_sem, *, rN_len, pairsOk, ↓bin_eql, ↓bin_neq, Nat.reduceAdd, Nat.reduceSub, Nat.reduceMul, Nat.reduceBEq, Nat.reduceLeDiff, Nat.reduceLT, Nat.reduceDiv, Nat.reduceMod, drwK_some, disj, ordered, ancs]); repeat' ((first | with_reducible first | refine caK (fun hb => ?_) fun hb => ?_ | refine caG (fun hb => ?_) fun hb => ?_ | refine caP (fun hb => ?_) fun hb => ?_ | refine caH (fun hb => ?_) fun hb => ?_ | refine caQ (fun hb => ?_) fun hb => ?_ | refine ite_cases (fun hb => ?_) fun hb => ?_) <;> try simp (maxSteps := 4000000) (disch := first | assumption | omega) only [go_sem, *, rN_len, pairsOk, ↓bin_eql, ↓bin_neq, Nat.reduceAdd, Nat.reduceSub, Nat.reduceMul, Nat.reduceBEq, Nat.reduceLeDiff, Nat.reduceLT, Nat.reduceDiv, Nat.reduceMod, drwK_some, disj, ordered, ancs])
  · rw [if_neg h]
    have L := szNodeS_loop xs (by omega) hok xs.length 0 (l - xs.length) (by omega) (by omega) (by omega)
    obtain ⟨l1, l2⟩ := szNs_le xs (l - xs.length) (by omega)
    rw [Int.toNat_zero, List.drop_zero] at L
    clear hok
    generalize szNs xs (l - (xs.length : Int)) = r at L l1 l2 ⊢
    by_cases hr : r < 0
    · rw [if_pos hr] at L
      have e : r = -1 := by omega
      subst e
      refine nfW true (fun _ => W11.2) W11.1 Try.func11 rfl rfl fun c ht hr => ?_; simp only [okW, List.length_cons, List.length_nil, Nat.reduceAdd, firstReg, and_true] at c; (try simp (maxSteps := 4000000) (disch := first | assumption | omega) only [go_sem, *, rN_len, L, pairsOk, ↓bin_eql, ↓bin_neq, Nat.reduceAdd, Nat.reduceSub, Nat.reduceMul, Nat.reduceBEq, Nat.reduceLeDiff, Nat.reduceLT, Nat.reduceDiv, Nat.reduceMod, drwK_some, disj, ordered, ancs]); repeat' ((first | with_reducible first | refine caK (fun hb => ?_) fun hb => ?_ | refine caG (fun hb => ?_) fun hb => ?_ | refine caP (fun hb => ?_) fun hb => ?_ | refine caH (fun hb => ?_) fun hb => ?_ | refine caQ (fun hb => ?_) fun hb => ?_ | refine ite_cases (fun hb => ?_) fun hb => ?_) <;> try simp (maxSteps := 4000000) (disch := first | assumption | omega) only [go_sem, *, rN_len, L, pairsOk, ↓bin_eql, ↓bin_neq, Nat.reduceAdd, Nat.reduceSub, Nat.reduceMul, Nat.reduceBEq, Nat.reduceLeDiff, Nat.reduceLT, Nat.reduceDiv, Nat.reduceMod, drwK_some, disj, ordered, ancs])
    · rw [if_neg hr] at L
      refine nfW true (fun _ => W11.2) W11.1 Try.func11 rfl rfl fun c ht hr => ?_; simp only [okW, List.length_cons, List.length_nil, Nat.reduceAdd, firstReg, and_true] at c; (try simp (maxSteps := 4000000) (disch := first | assumption | omega) only [go_sem, *, rN_len, L, pairsOk, ↓bin_eql, ↓bin_neq, Nat.reduceAdd, Nat.reduceSub, Nat.reduceMul, Nat.reduceBEq, Nat.reduceLeDiff, Nat.reduceLT, Nat.reduceDiv, Nat.reduceMod, drwK_some, disj, ordered, ancs]); repeat' ((first | with_reducible first | refine caK (fun hb => ?_) fun hb => ?_ | refine caG (fun hb => ?_) fun hb => ?_ | refine caP (fun hb => ?_) fun hb => ?_ | refine caH (fun hb => ?_) fun hb => ?_ | refine caQ (fun hb => ?_) fun hb => ?_ | refine ite_cases (fun hb => ?_) fun hb => ?_) <;> try simp (maxSteps := 4000000) (disch := first | assumption | omega) only [go_sem, *, rN_len, L, pairsOk, ↓bin_eql, ↓bin_neq, Nat.reduceAdd, Nat.reduceSub, Nat.reduceMul, Nat.reduceBEq, Nat.reduceLeDiff, Nat.reduceLT, Nat.reduceDiv, Nat.reduceMod, drwK_some, disj, ordered, ancs])
theorem szRuleS_ok (xs : List GRule) (l : Int) (hl : 0 ≤ l ∧ l ≤ 1048576) (hx : xs.length ≤ maxLen) : fnL Try.prog T L0 12 [.c (.d (.sl 3 (rR xs))), .c (.d (.v (.int .i64 (l))))] [] = some (.one (.c (.d (.v (.int .i64 (if l - xs.length < 0 then -1 else l - xs.length))))), []) := by
  have : maxLen = 9223372036854775807 := rfl
  refine nfW true (fun _ => W12.2) W12.1 Try.func12 rfl rfl fun c ht hr => ?_; simp only [okW, List.length_cons, List.length_nil, Nat.reduceAdd, firstReg, and_true] at c; (try simp (maxSteps := 4000000) (disch := first | assumption | omega) only [go_sem, *, rR_len, pairsOk, ↓bin_eql, ↓bin_neq, Nat.reduceAdd, Nat.reduceSub, Nat.reduceMul, Nat.reduceBEq, Nat.reduceLeDiff, Nat.reduceLT, Nat.reduceDiv, Nat.reduceMod, drwK_some, disj, ordered, ancs]); repeat' ((first | with_reducible first | refine caK (fun hb => ?_) fun hb => ?_ | refine caG (fun hb => ?_) fun hb => ?_ | refine caP (fun hb => ?_) fun hb => ?_ | refine caH (fun hb => ?_) fun hb => ?_ | refine caQ (fun hb => ?_) fun hb => ?_ | refine ite_cases (fun hb => ?_) fun hb => ?_) <;> try simp (maxSteps := 4000000) (disch := first | assumption | omega) only [go_sem, *, rR_len, pairsOk, ↓bin_eql, ↓bin_neq, Nat.reduceAdd, Nat.reduceSub, Nat.reduceMul, Nat.reduceBEq, Nat.reduceLeDiff, Nat.reduceLT, Nat.reduceDiv, Nat.reduceMod, drwK_some, disj, ordered, ancs])
def szP (p : GProgram) (l : Int) : Int :=
  if (if l - p.Nodes.length < 0 then -1 else szNs p.Nodes (l - p.Nodes.length)) < 0 then -1
  else if (if l - p.Nodes.length < 0 then -1 else szNs p.Nodes (l - p.Nodes.length)) - p.Rules.length < 0 then -1 else (if l - p.Nodes.length < 0 then -1 else szNs p.Nodes (l - p.Nodes.length)) - p.Rules.length
theorem szProgram_ok (p : GProgram) (l : Int) (hl : 0 ≤ l ∧ l ≤ 1048576) (hp : p.ok) : fnL Try.prog T L0 4 [.agg (p.enc.map .d), .c (.d (.v (.int .i64 (l))))] [] = some (.one (.c (.d (.v (.int .i64 (szP p l))))), []) := by
  have : maxLen = 9223372036854775807 := rfl
  obtain ⟨⟨h1, h2⟩, h3, h4⟩ := hp
  have hN := szNodeS_ok p.Nodes l hl h1 (fun x hx => ⟨(h2 x hx).2.1, (h2 x hx).2.2.1⟩)
  have hb : (if l - (p.Nodes.length : Int) < 0 then -1 else szNs p.Nodes (l - p.Nodes.length)) ≤ 1048576 ∧ -1 ≤ (if l - (p.Nodes.length : Int) < 0 then -1 else szNs p.Nodes (l - p.Nodes.length)) := by
    split
    · omega
    · have := szNs_le p.Nodes (l - p.Nodes.length) (by omega)
      omega
  unfold szP
  generalize (if l - (p.Nodes.length : Int) < 0 then -1 else szNs p.Nodes (l - p.Nodes.length)) = r at hN hb ⊢
  have hR := fun h => szRuleS_ok p.Rules r ⟨h, hb.1⟩ h3
  clear h2 h4
  by_cases hr : r < 0
  · clear hR
    rw [if_pos hr]
    refine nfW true (fun _ => W4.2) W4.1 Try.func4 rfl rfl fun c ht hr => ?_; simp only [okW, List.length_cons, List.length_nil, Nat.reduceAdd, firstReg, and_true] at c; (try simp (maxSteps := 4000000) (disch := first | assumption | omega) only [go_sem, *, encP, hN, pairsOk, ↓bin_eql, ↓bin_neq, Nat.reduceAdd, Nat.reduceSub, Nat.reduceMul, Nat.reduceBEq, Nat.reduceLeDiff, Nat.reduceLT, Nat.reduceDiv, Nat.reduceMod, drwK_some, disj, ordered, ancs]); repeat' ((first | with_reducible first | refine caK (fun hb => ?_) fun hb => ?_ | refine caG (fun hb => ?_) fun hb => ?_ | refine caP (fun hb => ?_) fun hb => ?_ | refine caH (fun hb => ?_) fun hb => ?_ | refine caQ (fun hb => ?_) fun hb => ?_ | refine ite_cases (fun hb => ?_) fun hb => ?_) <;> try simp (maxSteps := 4000000) (disch := first | assumption | omega) only [go_sem, *, encP, hN, pairsOk, ↓bin_eql, ↓bin_neq, Nat.reduceAdd, Nat.reduceSub, Nat.reduceMul, Nat.reduceBEq, Nat.reduceLeDiff, Nat.reduceLT, Nat.reduceDiv, Nat.reduceMod, drwK_some, disj, ordered, ancs])
  · replace hR := hR (by omega)
    rw [if_neg hr]
    generalize hq : (if r - (p.Rules.length : Int) < 0 then -1 else r - (p.Rules.length : Int)) = q at hR ⊢
    have hq2 : -1 ≤ q ∧ (q < 0 → q = -1) := by rw [← hq]; split <;> omega
    clear hq
    by_cases hq3 : q < 0
    · have e := hq2.2 hq3
      subst e
      refine nfW true (fun _ => W4.2) W4.1 Try.func4 rfl rfl fun c ht hr => ?_; simp only [okW, List.length_cons, List.length_nil, Nat.reduceAdd, firstReg, and_true] at c; (try simp (maxSteps := 4000000) (disch := first | assumption | omega) only [go_sem, *, encP, hN, hR, pairsOk, ↓bin_eql, ↓bin_neq, Nat.reduceAdd, Nat.reduceSub, Nat.reduceMul, Nat.reduceBEq, Nat.reduceLeDiff, Nat.reduceLT, Nat.reduceDiv, Nat.reduceMod, drwK_some, disj, ordered, ancs]); repeat' ((first | with_reducible first | refine caK (fun hb => ?_) fun hb => ?_ | refine caG (fun hb => ?_) fun hb => ?_ | refine caP (fun hb => ?_) fun hb => ?_ | refine caH (fun hb => ?_) fun hb => ?_ | refine caQ (fun hb => ?_) fun hb => ?_ | refine ite_cases (fun hb => ?_) fun hb => ?_) <;> try simp (maxSteps := 4000000) (disch := first | assumption | omega) only [go_sem, *, encP, hN, hR, pairsOk, ↓bin_eql, ↓bin_neq, Nat.reduceAdd, Nat.reduceSub, Nat.reduceMul, Nat.reduceBEq, Nat.reduceLeDiff, Nat.reduceLT, Nat.reduceDiv, Nat.reduceMod, drwK_some, disj, ordered, ancs])
    · 
      refine nfW true (fun _ => W4.2) W4.1 Try.func4 rfl rfl fun c ht hr => ?_; simp only [okW, List.length_cons, List.length_nil, Nat.reduceAdd, firstReg, and_true] at c; (try simp (maxSteps := 4000000) (disch := first | assumption | omega) only [go_sem, *, encP, hN, hR, pairsOk, ↓bin_eql, ↓bin_neq, Nat.reduceAdd, Nat.reduceSub, Nat.reduceMul, Nat.reduceBEq, Nat.reduceLeDiff, Nat.reduceLT, Nat.reduceDiv, Nat.reduceMod, drwK_some, disj, ordered, ancs]); repeat' ((first | with_reducible first | refine caK (fun hb => ?_) fun hb => ?_ | refine caG (fun hb => ?_) fun hb => ?_ | refine caP (fun hb => ?_) fun hb => ?_ | refine caH (fun hb => ?_) fun hb => ?_ | refine caQ (fun hb => ?_) fun hb => ?_ | refine ite_cases (fun hb => ?_) fun hb => ?_) <;> try simp (maxSteps := 4000000) (disch := first | assumption | omega) only [go_sem, *, encP, hN, hR, pairsOk, ↓bin_eql, ↓bin_neq, Nat.reduceAdd, Nat.reduceSub, Nat.reduceMul, Nat.reduceBEq, Nat.reduceLeDiff, Nat.reduceLT, Nat.reduceDiv, Nat.reduceMod, drwK_some, disj, ordered, ancs])
end
end Go.Vsi
