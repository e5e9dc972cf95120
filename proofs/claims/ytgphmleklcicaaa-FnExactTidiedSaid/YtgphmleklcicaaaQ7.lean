/- What the functions of the program, of the reference and of the law do (a part of it). -/
import Derived.Test.YtgphmleklcicaaaQ6
import Derived.Test.YtgphmleklcicaaaQ4
namespace Go.Vsi
open Go.Proofs
noncomputable section
set_option maxRecDepth 100000
set_option maxHeartbeats 4000000
set_option linter.unusedSimpArgs false
set_option linter.unusedVariables false
attribute [local go_sem ↓] IX9
theorem Ri1 (R : List Bool) (i : Nat) (b : Bool) (h : R[i]? = some b) : R.getD i false = b := by rw [List.getD_eq_getElem?_getD, h]; rfl
theorem L1_of {fn : FuncId} {args : List V} {r : W} (h : fnL Try.prog T L0 fn args [] = some (r, [])) (hf : L1 fn args [] = fnL Try.prog T L0 fn args []) : fnL Try.prog T1 L1 fn args [] = some (r, []) := fnL_lib (hf.trans h)
def KidsR (p : GProgram) : Prop := ∀ x ∈ p.Nodes, x.Kids.length ≤ 1048576 ∧ ∀ k ∈ x.Kids, 0 ≤ k ∧ k < (p.Nodes.length : Int)
def rTd (P : List Int) (r : GRule) : GRule := ⟨r.When, if 0 ≤ r.If then pl P r.If else r.If, pl P r.Do⟩
theorem out_run1 (p : GProgram) (R : List Bool) (hn : p.Nodes.length ≤ 200) (hR : R.length = p.Nodes.length) (hk : KidsR p) : ∀ (xs : List GNode) (i : Nat) (P : List Int) (N : List GNode), p.Nodes.drop i = xs → i + xs.length = p.Nodes.length → P.length = p.Nodes.length → N.length ≤ i →
    loopC Try.prog T1 (fnL Try.prog T1 L1) 7 (cq Try.f7 [0, 0, 1, 0, 1, 1, 1, 1, 1]) ⟨[J, .one (.c (.ptr 0 0 0)), .one (.c (.ptr 1 0 0)), .one (.c (.arr 2 0 p.Nodes.length)), .one (.c (.ptr 3 0 0)), .one (.c (.d (.sl 1 (rB R)))), J, J, J, J, J, J, J, J, J, J, J, J, J, J, J, J, J, J, J, J, .one (.c (.d (.sl 3 (rN p.Nodes)))), .one (.c (.d (.v (.int .i64 ((p.Nodes.length : Int)))))), .one (.c (.d (.v (.int .i64 ((i : Int)))))), J, J, J, J, J, J, J, J, J, J, J, J, J, J, J, J, J, J, J, J, J, J, J, J, J, J, J, J, J, J, J, J, J, J, J, J, J, J, J, J, J, J, J, J, J, J, J, J, J, J, J, J, J, J, J, J, J, J, J, J, J, J, J, J, J, J, J, J, J, J, J, J, J, J], hpOf [some (.var [.d (.sl 3 (rN p.Nodes)), .d (.sl 3 (rR p.Rules))]), some (.var [.d (.v (.slice none 0 0)), .d (.v (.slice none 0 0))]), some (.arr 1 (rI P)), some (.var [.arr 4 0 N.length, .d (.v (.slice none 0 0))]), some (.nar 3 (oN true N) [])], 5, 0⟩ = some (.exit 0, ⟨[J, .one (.c (.ptr 0 0 0)), .one (.c (.ptr 1 0 0)), .one (.c (.arr 2 0 p.Nodes.length)), .one (.c (.ptr 3 0 0)), J, J, J, J, J, J, J, J, J, J, J, J, J, J, J, J, J, J, J, J, J, J, J, J, J, J, J, J, J, J, J, J, J, J, J, J, J, J, J, J, J, J, J, J, J, J, J, J, J, J, J, J, J, J, J, J, J, J, J, J, J, J, J, J, J, J, J, J, J, J, J, J, J, J, J, J, J, J, J, J, J, J, J, J, J, J, J, J, J, J, J, J, J, J, J, J, J, J], hpOf [some (.var [.d (.sl 3 (rN p.Nodes)), .d (.sl 3 (rR p.Rules))]), some (.var [.d (.v (.slice none 0 0)), .d (.v (.slice none 0 0))]), some (.arr 1 (rI (tdN R xs i (P, N)).1)), some (.var [.arr 4 0 (tdN R xs i (P, N)).2.length, .d (.v (.slice none 0 0))]), some (.nar 3 (oN true (tdN R xs i (P, N)).2) [])], 5, 0⟩)
  | [], i, P, N, hd, hi, hP, hN => by
    have e : (i : Int) = (p.Nodes.length : Int) := by simp at hi; omega
    rw [e]
    exact out_end1 p P N R hn
  | x :: xs, i, P, N, hd, hi, hP, hN => by
    obtain ⟨hg, hd⟩ := drop_cons' hd
    rw [List.length_cons] at hi
    have hx : x ∈ p.Nodes := List.mem_of_getElem? hg
    obtain ⟨b, hb⟩ : ∃ b, R[i]? = some b := ⟨R[i]'(by omega), List.getElem?_eq_getElem (by omega)⟩
    have hg2 : p.Nodes[((i : Nat) : Int).toNat]? = some x := hg
    have hb2 : R[((i : Nat) : Int).toNat]? = some b := hb
    have hi2 : (0 : Int) ≤ (i : Int) ∧ (i : Int) < (p.Nodes.length : Int) := by omega
    rw [tdN, tdStep, Ri1 R i b hb]
    cases b with
    | false =>
      rw [out_skip1 p P N R i x hn hi2 hg2 hb2, if_neg (by simp)]
      exact out_run1 p R hn hR hk xs (i + 1) P N hd (by omega) hP (by omega)
    | true =>
      rw [if_pos rfl]
      have ih := out_run1 p R hn hR hk xs (i + 1) (P.set i (N.length : Int)) (N ++ [(⟨x.Op, x.Text, x.Kids.map (pl P)⟩ : GNode)]) hd (by omega) (by simpa using hP) (by simp; omega)
      by_cases hne : x.Kids = []
      · rw [out_take10 p P N R i x (by omega) hP hn hi2 hg2 hb2 (hk x hx).2 (hk x hx).1 hne]
        exact ih
      · rw [out_take11 p P N R i x (by omega) hP hn hi2 hg2 hb2 (hk x hx).2 (hk x hx).1 hne]
        exact ih
theorem out_run0 (p : GProgram) (R : List Bool) (hn : p.Nodes.length ≤ 200) (hR : R.length = p.Nodes.length) (hk : KidsR p) : ∀ (xs : List GNode) (i : Nat) (P : List Int), p.Nodes.drop i = xs → i + xs.length = p.Nodes.length → P.length = p.Nodes.length →
    ((tdN R xs i (P, [])).2 = [] → loopC Try.prog T1 (fnL Try.prog T1 L1) 7 (cq Try.f7 [0, 0, 1, 0, 1, 1, 1, 1, 1]) ⟨[J, .one (.c (.ptr 0 0 0)), .one (.c (.ptr 1 0 0)), .one (.c (.arr 2 0 p.Nodes.length)), .one (.c (.ptr 3 0 0)), .one (.c (.d (.sl 1 (rB R)))), J, J, J, J, J, J, J, J, J, J, J, J, J, J, J, J, J, J, J, J, .one (.c (.d (.sl 3 (rN p.Nodes)))), .one (.c (.d (.v (.int .i64 ((p.Nodes.length : Int)))))), .one (.c (.d (.v (.int .i64 ((i : Int)))))), J, J, J, J, J, J, J, J, J, J, J, J, J, J, J, J, J, J, J, J, J, J, J, J, J, J, J, J, J, J, J, J, J, J, J, J, J, J, J, J, J, J, J, J, J, J, J, J, J, J, J, J, J, J, J, J, J, J, J, J, J, J, J, J, J, J, J, J, J, J, J, J, J, J], hpOf [some (.var [.d (.sl 3 (rN p.Nodes)), .d (.sl 3 (rR p.Rules))]), some (.var [.d (.v (.slice none 0 0)), .d (.v (.slice none 0 0))]), some (.arr 1 (rI P)), some (.var [.d (.v (.slice none 0 0)), .d (.v (.slice none 0 0))])], 4, 0⟩ = some (.exit 0, ⟨[J, .one (.c (.ptr 0 0 0)), .one (.c (.ptr 1 0 0)), .one (.c (.arr 2 0 p.Nodes.length)), .one (.c (.ptr 3 0 0)), J, J, J, J, J, J, J, J, J, J, J, J, J, J, J, J, J, J, J, J, J, J, J, J, J, J, J, J, J, J, J, J, J, J, J, J, J, J, J, J, J, J, J, J, J, J, J, J, J, J, J, J, J, J, J, J, J, J, J, J, J, J, J, J, J, J, J, J, J, J, J, J, J, J, J, J, J, J, J, J, J, J, J, J, J, J, J, J, J, J, J, J, J, J, J, J, J, J], hpOf [some (.var [.d (.sl 3 (rN p.Nodes)), .d (.sl 3 (rR p.Rules))]), some (.var [.d (.v (.slice none 0 0)), .d (.v (.slice none 0 0))]), some (.arr 1 (rI (tdN R xs i (P, [])).1)), some (.var [.d (.v (.slice none 0 0)), .d (.v (.slice none 0 0))])], 4, 0⟩)) ∧ ((tdN R xs i (P, [])).2 ≠ [] → loopC Try.prog T1 (fnL Try.prog T1 L1) 7 (cq Try.f7 [0, 0, 1, 0, 1, 1, 1, 1, 1]) ⟨[J, .one (.c (.ptr 0 0 0)), .one (.c (.ptr 1 0 0)), .one (.c (.arr 2 0 p.Nodes.length)), .one (.c (.ptr 3 0 0)), .one (.c (.d (.sl 1 (rB R)))), J, J, J, J, J, J, J, J, J, J, J, J, J, J, J, J, J, J, J, J, .one (.c (.d (.sl 3 (rN p.Nodes)))), .one (.c (.d (.v (.int .i64 ((p.Nodes.length : Int)))))), .one (.c (.d (.v (.int .i64 ((i : Int)))))), J, J, J, J, J, J, J, J, J, J, J, J, J, J, J, J, J, J, J, J, J, J, J, J, J, J, J, J, J, J, J, J, J, J, J, J, J, J, J, J, J, J, J, J, J, J, J, J, J, J, J, J, J, J, J, J, J, J, J, J, J, J, J, J, J, J, J, J, J, J, J, J, J, J], hpOf [some (.var [.d (.sl 3 (rN p.Nodes)), .d (.sl 3 (rR p.Rules))]), some (.var [.d (.v (.slice none 0 0)), .d (.v (.slice none 0 0))]), some (.arr 1 (rI P)), some (.var [.d (.v (.slice none 0 0)), .d (.v (.slice none 0 0))])], 4, 0⟩ = some (.exit 0, ⟨[J, .one (.c (.ptr 0 0 0)), .one (.c (.ptr 1 0 0)), .one (.c (.arr 2 0 p.Nodes.length)), .one (.c (.ptr 3 0 0)), J, J, J, J, J, J, J, J, J, J, J, J, J, J, J, J, J, J, J, J, J, J, J, J, J, J, J, J, J, J, J, J, J, J, J, J, J, J, J, J, J, J, J, J, J, J, J, J, J, J, J, J, J, J, J, J, J, J, J, J, J, J, J, J, J, J, J, J, J, J, J, J, J, J, J, J, J, J, J, J, J, J, J, J, J, J, J, J, J, J, J, J, J, J, J, J, J, J], hpOf [some (.var [.d (.sl 3 (rN p.Nodes)), .d (.sl 3 (rR p.Rules))]), some (.var [.d (.v (.slice none 0 0)), .d (.v (.slice none 0 0))]), some (.arr 1 (rI (tdN R xs i (P, [])).1)), some (.var [.arr 4 0 (tdN R xs i (P, [])).2.length, .d (.v (.slice none 0 0))]), some (.nar 3 (oN true (tdN R xs i (P, [])).2) [])], 5, 0⟩))
  | [], i, P, hd, hi, hP => by
    have e : (i : Int) = (p.Nodes.length : Int) := by simp at hi; omega
    refine ⟨fun _ => ?_, fun h => absurd rfl h⟩
    rw [e]
    exact out_end0 p P [] R hn
  | x :: xs, i, P, hd, hi, hP => by
    obtain ⟨hg, hd⟩ := drop_cons' hd
    rw [List.length_cons] at hi
    have hx : x ∈ p.Nodes := List.mem_of_getElem? hg
    obtain ⟨b, hb⟩ : ∃ b, R[i]? = some b := ⟨R[i]'(by omega), List.getElem?_eq_getElem (by omega)⟩
    have hg2 : p.Nodes[((i : Nat) : Int).toNat]? = some x := hg
    have hb2 : R[((i : Nat) : Int).toNat]? = some b := hb
    have hi2 : (0 : Int) ≤ (i : Int) ∧ (i : Int) < (p.Nodes.length : Int) := by omega
    rw [tdN, tdStep, Ri1 R i b hb]
    cases b with
    | false =>
      rw [out_skip0 p P [] R i x hn hi2 hg2 hb2, if_neg (by simp)]
      exact out_run0 p R hn hR hk xs (i + 1) P hd (by omega) hP
    | true =>
      rw [if_pos rfl]
      have ih := out_run1 p R hn hR hk xs (i + 1) (P.set i (([] : List GNode).length : Int)) ([] ++ [(⟨x.Op, x.Text, x.Kids.map (pl P)⟩ : GNode)]) hd (by omega) (by simpa using hP) (by simp)
      refine ⟨fun h => absurd h (tdN_ne R xs _ _ (by simp)), fun _ => ?_⟩
      by_cases hne : x.Kids = []
      · rw [out_take00 p P [] R i x rfl hP hn hi2 hg2 hb2 (hk x hx).2 (hk x hx).1 hne]
        exact ih
      · rw [out_take01 p P [] R i x rfl hP hn hi2 hg2 hb2 (hk x hx).2 (hk x hx).1 hne]
        exact ih

theorem ru_step00 (p : GProgram) (P : List Int) (N : List GNode) (Q : List GRule) (i : Int) (r : GRule) (hQ : Q = []) (hP : P.length = p.Nodes.length) (hn : p.Nodes.length ≤ 200) (hr : p.Rules.length ≤ 1048576) (hi : 0 ≤ i ∧ i < p.Rules.length) (hs : p.Rules[i.toNat]? = some r) (hD : 0 ≤ r.Do ∧ r.Do < (p.Nodes.length : Int)) (hI : r.If < (p.Nodes.length : Int)) : loopC Try.prog T1 (fnL Try.prog T1 L1) 7 (cq Try.f7 [0, 0, 1, 0, 1, 1, 1, 1, 1, 1]) ⟨[J, J, .one (.c (.ptr 0 0 0)), .one (.c (.arr 1 0 p.Nodes.length)), .one (.c (.ptr 2 0 0)), J, J, J, J, J, J, J, J, J, J, J, J, J, J, J, J, J, J, J, J, J, J, J, J, J, J, J, J, J, J, J, J, J, J, J, J, J, J, J, J, J, J, J, J, J, J, J, J, J, J, J, J, J, J, J, J, J, J, J, J, J, J, J, J, J, J, J, J, J, .one (.c (.d (.sl 3 (rR p.Rules)))), .one (.c (.d (.v (.int .i64 ((p.Rules.length : Int)))))), .one (.c (.d (.v (.int .i64 (i))))), J, J, J, J, J, J, J, J, J, J, J, J, J, J, J, J, J, J, J, J, J, J, J, J, J, J], hpOf [some (.var [.d (.v (.slice none 0 0)), .d (.v (.slice none 0 0))]), some (.arr 1 (rI P)), some (.var [.d (.v (.slice none 0 0)), .d (.v (.slice none 0 0))])], 3, 0⟩ = loopC Try.prog T1 (fnL Try.prog T1 L1) 7 (cq Try.f7 [0, 0, 1, 0, 1, 1, 1, 1, 1, 1]) ⟨[J, J, .one (.c (.ptr 0 0 0)), .one (.c (.arr 1 0 p.Nodes.length)), .one (.c (.ptr 2 0 0)), J, J, J, J, J, J, J, J, J, J, J, J, J, J, J, J, J, J, J, J, J, J, J, J, J, J, J, J, J, J, J, J, J, J, J, J, J, J, J, J, J, J, J, J, J, J, J, J, J, J, J, J, J, J, J, J, J, J, J, J, J, J, J, J, J, J, J, J, J, .one (.c (.d (.sl 3 (rR p.Rules)))), .one (.c (.d (.v (.int .i64 ((p.Rules.length : Int)))))), .one (.c (.d (.v (.int .i64 (i + 1))))), J, J, J, J, J, J, J, J, J, J, J, J, J, J, J, J, J, J, J, J, J, J, J, J, J, J], hpOf [some (.var [.d (.v (.slice none 0 0)), .d (.v (.slice none 0 0))]), some (.arr 1 (rI P)), some (.var [.d (.v (.slice none 0 0)), .arr 3 0 (Q ++ [rTd P r]).length]), some (.arr 3 (rR (Q ++ [rTd P r])))], 4, 0⟩ := by
  have hg : (rR p.Rules)[i.toNat]? = some r.enc := by unfold rR; rw [List.getElem?_map, hs]; rfl
  simp only [GRule.enc] at hg
  have hroom : room = 70368744177664 := rfl
  obtain ⟨i1, i2⟩ := hi
  obtain ⟨d1, d2⟩ := hD
  have g2 := pl_get P r.Do d1 (by omega)
  have e1 : rR (Q ++ [rTd P r]) = rR Q ++ [(rTd P r).enc] := by simp [rR]
  have e2 : (Q ++ [rTd P r]).length = Q.length + 1 := by simp
  rw [e1, e2]
  subst hQ
  clear hs e1 e2
  simp only [GRule.enc, rTd, rR_nil, List.nil_append, List.length_nil, Nat.zero_add]
  by_cases h0 : 0 ≤ r.If
  · have g1 := pl_get P r.If h0 (by omega)
    simp only [if_pos h0]
    clear hP
    exact lp V7
  · simp only [if_neg h0]
    clear hP
    exact lp V7
theorem ru_end00 (p : GProgram) (P : List Int) (N : List GNode) (Q : List GRule) (i : Int) (h0 : 0 ≤ i) (hi : (p.Rules.length : Int) ≤ i) (hr : p.Rules.length ≤ 1048576) : loopC Try.prog T1 (fnL Try.prog T1 L1) 7 (cq Try.f7 [0, 0, 1, 0, 1, 1, 1, 1, 1, 1]) ⟨[J, J, .one (.c (.ptr 0 0 0)), .one (.c (.arr 1 0 p.Nodes.length)), .one (.c (.ptr 2 0 0)), J, J, J, J, J, J, J, J, J, J, J, J, J, J, J, J, J, J, J, J, J, J, J, J, J, J, J, J, J, J, J, J, J, J, J, J, J, J, J, J, J, J, J, J, J, J, J, J, J, J, J, J, J, J, J, J, J, J, J, J, J, J, J, J, J, J, J, J, J, .one (.c (.d (.sl 3 (rR p.Rules)))), .one (.c (.d (.v (.int .i64 ((p.Rules.length : Int)))))), .one (.c (.d (.v (.int .i64 (i))))), J, J, J, J, J, J, J, J, J, J, J, J, J, J, J, J, J, J, J, J, J, J, J, J, J, J], hpOf [some (.var [.d (.v (.slice none 0 0)), .d (.v (.slice none 0 0))]), some (.arr 1 (rI P)), some (.var [.d (.v (.slice none 0 0)), .d (.v (.slice none 0 0))])], 3, 0⟩ = some (.exit 4, ⟨[J, J, .one (.c (.ptr 0 0 0)), J, .one (.c (.ptr 1 0 0)), J, J, J, J, J, J, J, J, J, J, J, J, J, J, J, J, J, J, J, J, J, J, J, J, J, J, J, J, J, J, J, J, J, J, J, J, J, J, J, J, J, J, J, J, J, J, J, J, J, J, J, J, J, J, J, J, J, J, J, J, J, J, J, J, J, J, J, J, J, J, J, J, J, J, J, J, J, J, J, J, J, J, J, J, J, J, J, J, J, J, J, J, J, J, J, J, J, J], hpOf [some (.var [.d (.v (.slice none 0 0)), .d (.v (.slice none 0 0))]), some (.var [.d (.v (.slice none 0 0)), .d (.v (.slice none 0 0))])], 2, 0⟩) := by
  exact lp V7

theorem ru_step01 (p : GProgram) (P : List Int) (N : List GNode) (Q : List GRule) (i : Int) (r : GRule) (hQ : Q.length ≤ 1048576) (hP : P.length = p.Nodes.length) (hn : p.Nodes.length ≤ 200) (hr : p.Rules.length ≤ 1048576) (hi : 0 ≤ i ∧ i < p.Rules.length) (hs : p.Rules[i.toNat]? = some r) (hD : 0 ≤ r.Do ∧ r.Do < (p.Nodes.length : Int)) (hI : r.If < (p.Nodes.length : Int)) : loopC Try.prog T1 (fnL Try.prog T1 L1) 7 (cq Try.f7 [0, 0, 1, 0, 1, 1, 1, 1, 1, 1]) ⟨[J, J, .one (.c (.ptr 0 0 0)), .one (.c (.arr 1 0 p.Nodes.length)), .one (.c (.ptr 2 0 0)), J, J, J, J, J, J, J, J, J, J, J, J, J, J, J, J, J, J, J, J, J, J, J, J, J, J, J, J, J, J, J, J, J, J, J, J, J, J, J, J, J, J, J, J, J, J, J, J, J, J, J, J, J, J, J, J, J, J, J, J, J, J, J, J, J, J, J, J, J, .one (.c (.d (.sl 3 (rR p.Rules)))), .one (.c (.d (.v (.int .i64 ((p.Rules.length : Int)))))), .one (.c (.d (.v (.int .i64 (i))))), J, J, J, J, J, J, J, J, J, J, J, J, J, J, J, J, J, J, J, J, J, J, J, J, J, J], hpOf [some (.var [.d (.v (.slice none 0 0)), .d (.v (.slice none 0 0))]), some (.arr 1 (rI P)), some (.var [.d (.v (.slice none 0 0)), .arr 3 0 Q.length]), some (.arr 3 (rR Q))], 4, 0⟩ = loopC Try.prog T1 (fnL Try.prog T1 L1) 7 (cq Try.f7 [0, 0, 1, 0, 1, 1, 1, 1, 1, 1]) ⟨[J, J, .one (.c (.ptr 0 0 0)), .one (.c (.arr 1 0 p.Nodes.length)), .one (.c (.ptr 2 0 0)), J, J, J, J, J, J, J, J, J, J, J, J, J, J, J, J, J, J, J, J, J, J, J, J, J, J, J, J, J, J, J, J, J, J, J, J, J, J, J, J, J, J, J, J, J, J, J, J, J, J, J, J, J, J, J, J, J, J, J, J, J, J, J, J, J, J, J, J, J, .one (.c (.d (.sl 3 (rR p.Rules)))), .one (.c (.d (.v (.int .i64 ((p.Rules.length : Int)))))), .one (.c (.d (.v (.int .i64 (i + 1))))), J, J, J, J, J, J, J, J, J, J, J, J, J, J, J, J, J, J, J, J, J, J, J, J, J, J], hpOf [some (.var [.d (.v (.slice none 0 0)), .d (.v (.slice none 0 0))]), some (.arr 1 (rI P)), some (.var [.d (.v (.slice none 0 0)), .arr 3 0 (Q ++ [rTd P r]).length]), some (.arr 3 (rR (Q ++ [rTd P r])))], 4, 0⟩ := by
  have hg : (rR p.Rules)[i.toNat]? = some r.enc := by unfold rR; rw [List.getElem?_map, hs]; rfl
  simp only [GRule.enc] at hg
  have hroom : room = 70368744177664 := rfl
  obtain ⟨i1, i2⟩ := hi
  obtain ⟨d1, d2⟩ := hD
  have g2 := pl_get P r.Do d1 (by omega)
  have t2 := rR_tk Q
  have e1 : rR (Q ++ [rTd P r]) = rR Q ++ [(rTd P r).enc] := by simp [rR]
  have e2 : (Q ++ [rTd P r]).length = Q.length + 1 := by simp
  rw [e1, e2]
  clear hs e1 e2
  simp only [GRule.enc, rTd]
  by_cases h0 : 0 ≤ r.If
  · have g1 := pl_get P r.If h0 (by omega)
    simp only [if_pos h0]
    clear hP
    exact lp V7
  · simp only [if_neg h0]
    clear hP
    exact lp V7
theorem ru_end01 (p : GProgram) (P : List Int) (N : List GNode) (Q : List GRule) (i : Int) (h0 : 0 ≤ i) (hi : (p.Rules.length : Int) ≤ i) (hr : p.Rules.length ≤ 1048576) : loopC Try.prog T1 (fnL Try.prog T1 L1) 7 (cq Try.f7 [0, 0, 1, 0, 1, 1, 1, 1, 1, 1]) ⟨[J, J, .one (.c (.ptr 0 0 0)), .one (.c (.arr 1 0 p.Nodes.length)), .one (.c (.ptr 2 0 0)), J, J, J, J, J, J, J, J, J, J, J, J, J, J, J, J, J, J, J, J, J, J, J, J, J, J, J, J, J, J, J, J, J, J, J, J, J, J, J, J, J, J, J, J, J, J, J, J, J, J, J, J, J, J, J, J, J, J, J, J, J, J, J, J, J, J, J, J, J, .one (.c (.d (.sl 3 (rR p.Rules)))), .one (.c (.d (.v (.int .i64 ((p.Rules.length : Int)))))), .one (.c (.d (.v (.int .i64 (i))))), J, J, J, J, J, J, J, J, J, J, J, J, J, J, J, J, J, J, J, J, J, J, J, J, J, J], hpOf [some (.var [.d (.v (.slice none 0 0)), .d (.v (.slice none 0 0))]), some (.arr 1 (rI P)), some (.var [.d (.v (.slice none 0 0)), .arr 3 0 Q.length]), some (.arr 3 (rR Q))], 4, 0⟩ = some (.exit 4, ⟨[J, J, .one (.c (.ptr 0 0 0)), J, .one (.c (.ptr 1 0 0)), J, J, J, J, J, J, J, J, J, J, J, J, J, J, J, J, J, J, J, J, J, J, J, J, J, J, J, J, J, J, J, J, J, J, J, J, J, J, J, J, J, J, J, J, J, J, J, J, J, J, J, J, J, J, J, J, J, J, J, J, J, J, J, J, J, J, J, J, J, J, J, J, J, J, J, J, J, J, J, J, J, J, J, J, J, J, J, J, J, J, J, J, J, J, J, J, J, J], hpOf [some (.var [.d (.v (.slice none 0 0)), .d (.v (.slice none 0 0))]), some (.var [.d (.v (.slice none 0 0)), .arr 2 0 Q.length]), some (.arr 3 (rR Q))], 3, 0⟩) := by
  exact lp V7

theorem ru_run0 (p : GProgram) (P : List Int) (N : List GNode) (hP : P.length = p.Nodes.length) (hn : p.Nodes.length ≤ 200) (hr : p.Rules.length ≤ 1048576) (hD : ∀ r ∈ p.Rules, (0 ≤ r.Do ∧ r.Do < (p.Nodes.length : Int)) ∧ r.If < (p.Nodes.length : Int)) : ∀ (C A Q : List GRule) (i : Int), i = A.length → p.Rules = A ++ C → Q = A.map (rTd P) → loopC Try.prog T1 (fnL Try.prog T1 L1) 7 (cq Try.f7 [0, 0, 1, 0, 1, 1, 1, 1, 1, 1]) ⟨[J, J, .one (.c (.ptr 0 0 0)), .one (.c (.arr 1 0 p.Nodes.length)), .one (.c (.ptr 2 0 0)), J, J, J, J, J, J, J, J, J, J, J, J, J, J, J, J, J, J, J, J, J, J, J, J, J, J, J, J, J, J, J, J, J, J, J, J, J, J, J, J, J, J, J, J, J, J, J, J, J, J, J, J, J, J, J, J, J, J, J, J, J, J, J, J, J, J, J, J, J, .one (.c (.d (.sl 3 (rR p.Rules)))), .one (.c (.d (.v (.int .i64 ((p.Rules.length : Int)))))), .one (.c (.d (.v (.int .i64 (i))))), J, J, J, J, J, J, J, J, J, J, J, J, J, J, J, J, J, J, J, J, J, J, J, J, J, J], hpOf [some (.var [.d (.v (.slice none 0 0)), .d (.v (.slice none 0 0))]), some (.arr 1 (rI P)), some (.var [.d (.v (.slice none 0 0)), .arr 3 0 Q.length]), some (.arr 3 (rR Q))], 4, 0⟩ = some (.exit 4, ⟨[J, J, .one (.c (.ptr 0 0 0)), J, .one (.c (.ptr 1 0 0)), J, J, J, J, J, J, J, J, J, J, J, J, J, J, J, J, J, J, J, J, J, J, J, J, J, J, J, J, J, J, J, J, J, J, J, J, J, J, J, J, J, J, J, J, J, J, J, J, J, J, J, J, J, J, J, J, J, J, J, J, J, J, J, J, J, J, J, J, J, J, J, J, J, J, J, J, J, J, J, J, J, J, J, J, J, J, J, J, J, J, J, J, J, J, J, J, J, J], hpOf [some (.var [.d (.v (.slice none 0 0)), .d (.v (.slice none 0 0))]), some (.var [.d (.v (.slice none 0 0)), .arr 2 0 (p.Rules.map (rTd P)).length]), some (.arr 3 (rR (p.Rules.map (rTd P))))], 3, 0⟩)
  | [], A, Q, i, hi, hs, hQ => by
    rw [List.append_nil] at hs
    subst hQ
    rw [← hs] at hi ⊢
    rw [hi]
    exact ru_end01 p P N _ _ (by omega) (by omega) hr
  | r :: C, A, Q, i, hi, hs, hQ => by
    have e : p.Rules[i.toNat]? = some r := by rw [hs]; exact mid_get _ _ _ _ (by omega)
    have hm : r ∈ p.Rules := List.mem_of_getElem? e
    have hl : A.length + 1 ≤ p.Rules.length := by rw [hs, List.length_append, List.length_cons]; omega
    rw [ru_step01 p P N Q i r (by rw [hQ]; simp; omega) hP hn hr (by omega) e (hD r hm).1 (hD r hm).2]
    exact ru_run0 p P N hP hn hr hD C (A ++ [r]) (Q ++ [rTd P r]) (i + 1) (by simp; omega) (by rw [hs]; simp) (by rw [hQ]; simp)
theorem ru_all0 (p : GProgram) (P : List Int) (N : List GNode) (hP : P.length = p.Nodes.length) (hn : p.Nodes.length ≤ 200) (hr : p.Rules.length ≤ 1048576) (hD : ∀ r ∈ p.Rules, (0 ≤ r.Do ∧ r.Do < (p.Nodes.length : Int)) ∧ r.If < (p.Nodes.length : Int)) (hne : p.Rules ≠ []) : loopC Try.prog T1 (fnL Try.prog T1 L1) 7 (cq Try.f7 [0, 0, 1, 0, 1, 1, 1, 1, 1, 1]) ⟨[J, J, .one (.c (.ptr 0 0 0)), .one (.c (.arr 1 0 p.Nodes.length)), .one (.c (.ptr 2 0 0)), J, J, J, J, J, J, J, J, J, J, J, J, J, J, J, J, J, J, J, J, J, J, J, J, J, J, J, J, J, J, J, J, J, J, J, J, J, J, J, J, J, J, J, J, J, J, J, J, J, J, J, J, J, J, J, J, J, J, J, J, J, J, J, J, J, J, J, J, J, .one (.c (.d (.sl 3 (rR p.Rules)))), .one (.c (.d (.v (.int .i64 ((p.Rules.length : Int)))))), .one (.c (.d (.v (.int .i64 (0))))), J, J, J, J, J, J, J, J, J, J, J, J, J, J, J, J, J, J, J, J, J, J, J, J, J, J], hpOf [some (.var [.d (.v (.slice none 0 0)), .d (.v (.slice none 0 0))]), some (.arr 1 (rI P)), some (.var [.d (.v (.slice none 0 0)), .d (.v (.slice none 0 0))])], 3, 0⟩ = some (.exit 4, ⟨[J, J, .one (.c (.ptr 0 0 0)), J, .one (.c (.ptr 1 0 0)), J, J, J, J, J, J, J, J, J, J, J, J, J, J, J, J, J, J, J, J, J, J, J, J, J, J, J, J, J, J, J, J, J, J, J, J, J, J, J, J, J, J, J, J, J, J, J, J, J, J, J, J, J, J, J, J, J, J, J, J, J, J, J, J, J, J, J, J, J, J, J, J, J, J, J, J, J, J, J, J, J, J, J, J, J, J, J, J, J, J, J, J, J, J, J, J, J, J], hpOf [some (.var [.d (.v (.slice none 0 0)), .d (.v (.slice none 0 0))]), some (.var [.d (.v (.slice none 0 0)), .arr 2 0 (p.Rules.map (rTd P)).length]), some (.arr 3 (rR (p.Rules.map (rTd P))))], 3, 0⟩) := by
  cases hs : p.Rules with
  | nil => exact absurd hs hne
  | cons r C =>
    have e : p.Rules[(0 : Int).toNat]? = some r := by rw [hs]; rfl
    have hm : r ∈ p.Rules := by rw [hs]; simp
    have h0 := ru_step00 p P N [] 0 r rfl hP hn hr (by rw [hs, List.length_cons]; omega) e (hD r hm).1 (hD r hm).2
    have h1 := ru_run0 p P N hP hn hr hD C [r] ([] ++ [rTd P r]) (0 + 1) rfl hs rfl
    rw [← hs, h0]
    exact h1

theorem ru_step10 (p : GProgram) (P : List Int) (N : List GNode) (Q : List GRule) (i : Int) (r : GRule) (hQ : Q = []) (hP : P.length = p.Nodes.length) (hn : p.Nodes.length ≤ 200) (hr : p.Rules.length ≤ 1048576) (hi : 0 ≤ i ∧ i < p.Rules.length) (hs : p.Rules[i.toNat]? = some r) (hD : 0 ≤ r.Do ∧ r.Do < (p.Nodes.length : Int)) (hI : r.If < (p.Nodes.length : Int)) : loopC Try.prog T1 (fnL Try.prog T1 L1) 7 (cq Try.f7 [0, 0, 1, 0, 1, 1, 1, 1, 1, 1]) ⟨[J, J, .one (.c (.ptr 0 0 0)), .one (.c (.arr 1 0 p.Nodes.length)), .one (.c (.ptr 2 0 0)), J, J, J, J, J, J, J, J, J, J, J, J, J, J, J, J, J, J, J, J, J, J, J, J, J, J, J, J, J, J, J, J, J, J, J, J, J, J, J, J, J, J, J, J, J, J, J, J, J, J, J, J, J, J, J, J, J, J, J, J, J, J, J, J, J, J, J, J, J, .one (.c (.d (.sl 3 (rR p.Rules)))), .one (.c (.d (.v (.int .i64 ((p.Rules.length : Int)))))), .one (.c (.d (.v (.int .i64 (i))))), J, J, J, J, J, J, J, J, J, J, J, J, J, J, J, J, J, J, J, J, J, J, J, J, J, J], hpOf [some (.var [.d (.v (.slice none 0 0)), .d (.v (.slice none 0 0))]), some (.arr 1 (rI P)), some (.var [.arr 3 0 N.length, .d (.v (.slice none 0 0))]), some (.nar 3 (oN true N) [])], 4, 0⟩ = loopC Try.prog T1 (fnL Try.prog T1 L1) 7 (cq Try.f7 [0, 0, 1, 0, 1, 1, 1, 1, 1, 1]) ⟨[J, J, .one (.c (.ptr 0 0 0)), .one (.c (.arr 1 0 p.Nodes.length)), .one (.c (.ptr 2 0 0)), J, J, J, J, J, J, J, J, J, J, J, J, J, J, J, J, J, J, J, J, J, J, J, J, J, J, J, J, J, J, J, J, J, J, J, J, J, J, J, J, J, J, J, J, J, J, J, J, J, J, J, J, J, J, J, J, J, J, J, J, J, J, J, J, J, J, J, J, J, .one (.c (.d (.sl 3 (rR p.Rules)))), .one (.c (.d (.v (.int .i64 ((p.Rules.length : Int)))))), .one (.c (.d (.v (.int .i64 (i + 1))))), J, J, J, J, J, J, J, J, J, J, J, J, J, J, J, J, J, J, J, J, J, J, J, J, J, J], hpOf [some (.var [.d (.v (.slice none 0 0)), .d (.v (.slice none 0 0))]), some (.arr 1 (rI P)), some (.var [.arr 3 0 N.length, .arr 4 0 (Q ++ [rTd P r]).length]), some (.nar 3 (oN true N) []), some (.arr 3 (rR (Q ++ [rTd P r])))], 5, 0⟩ := by
  have hg : (rR p.Rules)[i.toNat]? = some r.enc := by unfold rR; rw [List.getElem?_map, hs]; rfl
  simp only [GRule.enc] at hg
  have hroom : room = 70368744177664 := rfl
  obtain ⟨i1, i2⟩ := hi
  obtain ⟨d1, d2⟩ := hD
  have g2 := pl_get P r.Do d1 (by omega)
  have e1 : rR (Q ++ [rTd P r]) = rR Q ++ [(rTd P r).enc] := by simp [rR]
  have e2 : (Q ++ [rTd P r]).length = Q.length + 1 := by simp
  rw [e1, e2]
  subst hQ
  clear hs e1 e2
  simp only [GRule.enc, rTd, rR_nil, List.nil_append, List.length_nil, Nat.zero_add]
  by_cases h0 : 0 ≤ r.If
  · have g1 := pl_get P r.If h0 (by omega)
    simp only [if_pos h0]
    clear hP
    exact lp V7
  · simp only [if_neg h0]
    clear hP
    exact lp V7
theorem ru_end10 (p : GProgram) (P : List Int) (N : List GNode) (Q : List GRule) (i : Int) (h0 : 0 ≤ i) (hi : (p.Rules.length : Int) ≤ i) (hr : p.Rules.length ≤ 1048576) : loopC Try.prog T1 (fnL Try.prog T1 L1) 7 (cq Try.f7 [0, 0, 1, 0, 1, 1, 1, 1, 1, 1]) ⟨[J, J, .one (.c (.ptr 0 0 0)), .one (.c (.arr 1 0 p.Nodes.length)), .one (.c (.ptr 2 0 0)), J, J, J, J, J, J, J, J, J, J, J, J, J, J, J, J, J, J, J, J, J, J, J, J, J, J, J, J, J, J, J, J, J, J, J, J, J, J, J, J, J, J, J, J, J, J, J, J, J, J, J, J, J, J, J, J, J, J, J, J, J, J, J, J, J, J, J, J, J, .one (.c (.d (.sl 3 (rR p.Rules)))), .one (.c (.d (.v (.int .i64 ((p.Rules.length : Int)))))), .one (.c (.d (.v (.int .i64 (i))))), J, J, J, J, J, J, J, J, J, J, J, J, J, J, J, J, J, J, J, J, J, J, J, J, J, J], hpOf [some (.var [.d (.v (.slice none 0 0)), .d (.v (.slice none 0 0))]), some (.arr 1 (rI P)), some (.var [.arr 3 0 N.length, .d (.v (.slice none 0 0))]), some (.nar 3 (oN true N) [])], 4, 0⟩ = some (.exit 4, ⟨[J, J, .one (.c (.ptr 0 0 0)), J, .one (.c (.ptr 1 0 0)), J, J, J, J, J, J, J, J, J, J, J, J, J, J, J, J, J, J, J, J, J, J, J, J, J, J, J, J, J, J, J, J, J, J, J, J, J, J, J, J, J, J, J, J, J, J, J, J, J, J, J, J, J, J, J, J, J, J, J, J, J, J, J, J, J, J, J, J, J, J, J, J, J, J, J, J, J, J, J, J, J, J, J, J, J, J, J, J, J, J, J, J, J, J, J, J, J, J], hpOf [some (.var [.d (.v (.slice none 0 0)), .d (.v (.slice none 0 0))]), some (.var [.arr 2 0 N.length, .d (.v (.slice none 0 0))]), some (.nar 3 (oN true N) [])], 3, 0⟩) := by
  exact lp V7

theorem ru_step11 (p : GProgram) (P : List Int) (N : List GNode) (Q : List GRule) (i : Int) (r : GRule) (hQ : Q.length ≤ 1048576) (hP : P.length = p.Nodes.length) (hn : p.Nodes.length ≤ 200) (hr : p.Rules.length ≤ 1048576) (hi : 0 ≤ i ∧ i < p.Rules.length) (hs : p.Rules[i.toNat]? = some r) (hD : 0 ≤ r.Do ∧ r.Do < (p.Nodes.length : Int)) (hI : r.If < (p.Nodes.length : Int)) : loopC Try.prog T1 (fnL Try.prog T1 L1) 7 (cq Try.f7 [0, 0, 1, 0, 1, 1, 1, 1, 1, 1]) ⟨[J, J, .one (.c (.ptr 0 0 0)), .one (.c (.arr 1 0 p.Nodes.length)), .one (.c (.ptr 2 0 0)), J, J, J, J, J, J, J, J, J, J, J, J, J, J, J, J, J, J, J, J, J, J, J, J, J, J, J, J, J, J, J, J, J, J, J, J, J, J, J, J, J, J, J, J, J, J, J, J, J, J, J, J, J, J, J, J, J, J, J, J, J, J, J, J, J, J, J, J, J, .one (.c (.d (.sl 3 (rR p.Rules)))), .one (.c (.d (.v (.int .i64 ((p.Rules.length : Int)))))), .one (.c (.d (.v (.int .i64 (i))))), J, J, J, J, J, J, J, J, J, J, J, J, J, J, J, J, J, J, J, J, J, J, J, J, J, J], hpOf [some (.var [.d (.v (.slice none 0 0)), .d (.v (.slice none 0 0))]), some (.arr 1 (rI P)), some (.var [.arr 3 0 N.length, .arr 4 0 Q.length]), some (.nar 3 (oN true N) []), some (.arr 3 (rR Q))], 5, 0⟩ = loopC Try.prog T1 (fnL Try.prog T1 L1) 7 (cq Try.f7 [0, 0, 1, 0, 1, 1, 1, 1, 1, 1]) ⟨[J, J, .one (.c (.ptr 0 0 0)), .one (.c (.arr 1 0 p.Nodes.length)), .one (.c (.ptr 2 0 0)), J, J, J, J, J, J, J, J, J, J, J, J, J, J, J, J, J, J, J, J, J, J, J, J, J, J, J, J, J, J, J, J, J, J, J, J, J, J, J, J, J, J, J, J, J, J, J, J, J, J, J, J, J, J, J, J, J, J, J, J, J, J, J, J, J, J, J, J, J, .one (.c (.d (.sl 3 (rR p.Rules)))), .one (.c (.d (.v (.int .i64 ((p.Rules.length : Int)))))), .one (.c (.d (.v (.int .i64 (i + 1))))), J, J, J, J, J, J, J, J, J, J, J, J, J, J, J, J, J, J, J, J, J, J, J, J, J, J], hpOf [some (.var [.d (.v (.slice none 0 0)), .d (.v (.slice none 0 0))]), some (.arr 1 (rI P)), some (.var [.arr 3 0 N.length, .arr 4 0 (Q ++ [rTd P r]).length]), some (.nar 3 (oN true N) []), some (.arr 3 (rR (Q ++ [rTd P r])))], 5, 0⟩ := by
  have hg : (rR p.Rules)[i.toNat]? = some r.enc := by unfold rR; rw [List.getElem?_map, hs]; rfl
  simp only [GRule.enc] at hg
  have hroom : room = 70368744177664 := rfl
  obtain ⟨i1, i2⟩ := hi
  obtain ⟨d1, d2⟩ := hD
  have g2 := pl_get P r.Do d1 (by omega)
  have t2 := rR_tk Q
  have e1 : rR (Q ++ [rTd P r]) = rR Q ++ [(rTd P r).enc] := by simp [rR]
  have e2 : (Q ++ [rTd P r]).length = Q.length + 1 := by simp
  rw [e1, e2]
  clear hs e1 e2
  simp only [GRule.enc, rTd]
  by_cases h0 : 0 ≤ r.If
  · have g1 := pl_get P r.If h0 (by omega)
    simp only [if_pos h0]
    clear hP
    exact lp V7
  · simp only [if_neg h0]
    clear hP
    exact lp V7
theorem ru_end11 (p : GProgram) (P : List Int) (N : List GNode) (Q : List GRule) (i : Int) (h0 : 0 ≤ i) (hi : (p.Rules.length : Int) ≤ i) (hr : p.Rules.length ≤ 1048576) : loopC Try.prog T1 (fnL Try.prog T1 L1) 7 (cq Try.f7 [0, 0, 1, 0, 1, 1, 1, 1, 1, 1]) ⟨[J, J, .one (.c (.ptr 0 0 0)), .one (.c (.arr 1 0 p.Nodes.length)), .one (.c (.ptr 2 0 0)), J, J, J, J, J, J, J, J, J, J, J, J, J, J, J, J, J, J, J, J, J, J, J, J, J, J, J, J, J, J, J, J, J, J, J, J, J, J, J, J, J, J, J, J, J, J, J, J, J, J, J, J, J, J, J, J, J, J, J, J, J, J, J, J, J, J, J, J, J, .one (.c (.d (.sl 3 (rR p.Rules)))), .one (.c (.d (.v (.int .i64 ((p.Rules.length : Int)))))), .one (.c (.d (.v (.int .i64 (i))))), J, J, J, J, J, J, J, J, J, J, J, J, J, J, J, J, J, J, J, J, J, J, J, J, J, J], hpOf [some (.var [.d (.v (.slice none 0 0)), .d (.v (.slice none 0 0))]), some (.arr 1 (rI P)), some (.var [.arr 3 0 N.length, .arr 4 0 Q.length]), some (.nar 3 (oN true N) []), some (.arr 3 (rR Q))], 5, 0⟩ = some (.exit 4, ⟨[J, J, .one (.c (.ptr 0 0 0)), J, .one (.c (.ptr 1 0 0)), J, J, J, J, J, J, J, J, J, J, J, J, J, J, J, J, J, J, J, J, J, J, J, J, J, J, J, J, J, J, J, J, J, J, J, J, J, J, J, J, J, J, J, J, J, J, J, J, J, J, J, J, J, J, J, J, J, J, J, J, J, J, J, J, J, J, J, J, J, J, J, J, J, J, J, J, J, J, J, J, J, J, J, J, J, J, J, J, J, J, J, J, J, J, J, J, J, J], hpOf [some (.var [.d (.v (.slice none 0 0)), .d (.v (.slice none 0 0))]), some (.var [.arr 2 0 N.length, .arr 3 0 Q.length]), some (.nar 3 (oN true N) []), some (.arr 3 (rR Q))], 4, 0⟩) := by
  exact lp V7

theorem ru_run1 (p : GProgram) (P : List Int) (N : List GNode) (hP : P.length = p.Nodes.length) (hn : p.Nodes.length ≤ 200) (hr : p.Rules.length ≤ 1048576) (hD : ∀ r ∈ p.Rules, (0 ≤ r.Do ∧ r.Do < (p.Nodes.length : Int)) ∧ r.If < (p.Nodes.length : Int)) : ∀ (C A Q : List GRule) (i : Int), i = A.length → p.Rules = A ++ C → Q = A.map (rTd P) → loopC Try.prog T1 (fnL Try.prog T1 L1) 7 (cq Try.f7 [0, 0, 1, 0, 1, 1, 1, 1, 1, 1]) ⟨[J, J, .one (.c (.ptr 0 0 0)), .one (.c (.arr 1 0 p.Nodes.length)), .one (.c (.ptr 2 0 0)), J, J, J, J, J, J, J, J, J, J, J, J, J, J, J, J, J, J, J, J, J, J, J, J, J, J, J, J, J, J, J, J, J, J, J, J, J, J, J, J, J, J, J, J, J, J, J, J, J, J, J, J, J, J, J, J, J, J, J, J, J, J, J, J, J, J, J, J, J, .one (.c (.d (.sl 3 (rR p.Rules)))), .one (.c (.d (.v (.int .i64 ((p.Rules.length : Int)))))), .one (.c (.d (.v (.int .i64 (i))))), J, J, J, J, J, J, J, J, J, J, J, J, J, J, J, J, J, J, J, J, J, J, J, J, J, J], hpOf [some (.var [.d (.v (.slice none 0 0)), .d (.v (.slice none 0 0))]), some (.arr 1 (rI P)), some (.var [.arr 3 0 N.length, .arr 4 0 Q.length]), some (.nar 3 (oN true N) []), some (.arr 3 (rR Q))], 5, 0⟩ = some (.exit 4, ⟨[J, J, .one (.c (.ptr 0 0 0)), J, .one (.c (.ptr 1 0 0)), J, J, J, J, J, J, J, J, J, J, J, J, J, J, J, J, J, J, J, J, J, J, J, J, J, J, J, J, J, J, J, J, J, J, J, J, J, J, J, J, J, J, J, J, J, J, J, J, J, J, J, J, J, J, J, J, J, J, J, J, J, J, J, J, J, J, J, J, J, J, J, J, J, J, J, J, J, J, J, J, J, J, J, J, J, J, J, J, J, J, J, J, J, J, J, J, J, J], hpOf [some (.var [.d (.v (.slice none 0 0)), .d (.v (.slice none 0 0))]), some (.var [.arr 2 0 N.length, .arr 3 0 (p.Rules.map (rTd P)).length]), some (.nar 3 (oN true N) []), some (.arr 3 (rR (p.Rules.map (rTd P))))], 4, 0⟩)
  | [], A, Q, i, hi, hs, hQ => by
    rw [List.append_nil] at hs
    subst hQ
    rw [← hs] at hi ⊢
    rw [hi]
    exact ru_end11 p P N _ _ (by omega) (by omega) hr
  | r :: C, A, Q, i, hi, hs, hQ => by
    have e : p.Rules[i.toNat]? = some r := by rw [hs]; exact mid_get _ _ _ _ (by omega)
    have hm : r ∈ p.Rules := List.mem_of_getElem? e
    have hl : A.length + 1 ≤ p.Rules.length := by rw [hs, List.length_append, List.length_cons]; omega
    rw [ru_step11 p P N Q i r (by rw [hQ]; simp; omega) hP hn hr (by omega) e (hD r hm).1 (hD r hm).2]
    exact ru_run1 p P N hP hn hr hD C (A ++ [r]) (Q ++ [rTd P r]) (i + 1) (by simp; omega) (by rw [hs]; simp) (by rw [hQ]; simp)
theorem ru_all1 (p : GProgram) (P : List Int) (N : List GNode) (hP : P.length = p.Nodes.length) (hn : p.Nodes.length ≤ 200) (hr : p.Rules.length ≤ 1048576) (hD : ∀ r ∈ p.Rules, (0 ≤ r.Do ∧ r.Do < (p.Nodes.length : Int)) ∧ r.If < (p.Nodes.length : Int)) (hne : p.Rules ≠ []) : loopC Try.prog T1 (fnL Try.prog T1 L1) 7 (cq Try.f7 [0, 0, 1, 0, 1, 1, 1, 1, 1, 1]) ⟨[J, J, .one (.c (.ptr 0 0 0)), .one (.c (.arr 1 0 p.Nodes.length)), .one (.c (.ptr 2 0 0)), J, J, J, J, J, J, J, J, J, J, J, J, J, J, J, J, J, J, J, J, J, J, J, J, J, J, J, J, J, J, J, J, J, J, J, J, J, J, J, J, J, J, J, J, J, J, J, J, J, J, J, J, J, J, J, J, J, J, J, J, J, J, J, J, J, J, J, J, J, .one (.c (.d (.sl 3 (rR p.Rules)))), .one (.c (.d (.v (.int .i64 ((p.Rules.length : Int)))))), .one (.c (.d (.v (.int .i64 (0))))), J, J, J, J, J, J, J, J, J, J, J, J, J, J, J, J, J, J, J, J, J, J, J, J, J, J], hpOf [some (.var [.d (.v (.slice none 0 0)), .d (.v (.slice none 0 0))]), some (.arr 1 (rI P)), some (.var [.arr 3 0 N.length, .d (.v (.slice none 0 0))]), some (.nar 3 (oN true N) [])], 4, 0⟩ = some (.exit 4, ⟨[J, J, .one (.c (.ptr 0 0 0)), J, .one (.c (.ptr 1 0 0)), J, J, J, J, J, J, J, J, J, J, J, J, J, J, J, J, J, J, J, J, J, J, J, J, J, J, J, J, J, J, J, J, J, J, J, J, J, J, J, J, J, J, J, J, J, J, J, J, J, J, J, J, J, J, J, J, J, J, J, J, J, J, J, J, J, J, J, J, J, J, J, J, J, J, J, J, J, J, J, J, J, J, J, J, J, J, J, J, J, J, J, J, J, J, J, J, J, J], hpOf [some (.var [.d (.v (.slice none 0 0)), .d (.v (.slice none 0 0))]), some (.var [.arr 2 0 N.length, .arr 3 0 (p.Rules.map (rTd P)).length]), some (.nar 3 (oN true N) []), some (.arr 3 (rR (p.Rules.map (rTd P))))], 4, 0⟩) := by
  cases hs : p.Rules with
  | nil => exact absurd hs hne
  | cons r C =>
    have e : p.Rules[(0 : Int).toNat]? = some r := by rw [hs]; rfl
    have hm : r ∈ p.Rules := by rw [hs]; simp
    have h0 := ru_step10 p P N [] 0 r rfl hP hn hr (by rw [hs, List.length_cons]; omega) e (hD r hm).1 (hD r hm).2
    have h1 := ru_run1 p P N hP hn hr hD C [r] ([] ++ [rTd P r]) (0 + 1) rfl hs rfl
    rw [← hs, h0]
    exact h1
end
end Go.Vsi
