/- What the functions of the program, of the reference and of the law do (a part of it). -/
import Derived.Test.YtgphmleklcicaaaQ9
namespace Go.Vsi
open Go.Proofs
noncomputable section
set_option maxRecDepth 100000
set_option maxHeartbeats 4000000
set_option linter.unusedSimpArgs false
set_option linter.unusedVariables false
attribute [local go_sem ↓] IX9
theorem pl_set (P : List Int) (i : Nat) (v k : Int) (h0 : 0 ≤ k) (h : k < (i : Int)) : pl (P.set i v) k = pl P k := by
  unfold pl
  rw [List.getD_eq_getElem?_getD, List.getD_eq_getElem?_getD, List.getElem?_set_ne (by omega)]
theorem map_pl (P : List Int) (i : Nat) (v : Int) (ks : List Int) (h : ∀ k ∈ ks, 0 ≤ k ∧ k < (i : Int)) : ks.map (pl (P.set i v)) = ks.map (pl P) := by
  apply List.map_congr_left
  intro k hk
  exact pl_set P i v k (h k hk).1 (h k hk).2
theorem s_run1 (p : GProgram) (R : List Bool) (hn : p.Nodes.length ≤ 200) (hR : R.length = p.Nodes.length) (hk : KidsR p) (hK : KidsIn p) : ∀ (xs : List GNode) (i : Nat) (P : List Int) (N : List GNode) (A : List (List O)), p.Nodes.drop i = xs → i + xs.length = p.Nodes.length → P.length = p.Nodes.length → N.length ≤ i → (∀ j x, i ≤ j → p.Nodes[j]? = some x → A[j]? = some (oNd false x)) →
    loopC Try.prog T1 (fnL Try.prog T1 L1) 5 (cq Try.f5 [0, 0, 1, 0, 1, 1, 1, 1, 1, 1]) ⟨[J, .one (.c (.ptr 2 0 0)), .one (.c (.ptr 3 0 0)), .one (.c (.ptr 4 0 0)), .one (.c (.d (.sl 1 (rB R)))), .one (.c (.arr 7 0 p.Nodes.length)), .one (.c (.ptr 8 0 0)), .one (.c (.d (.v (.int .i64 ((i : Int)))))), J, J, J, J, J, J, J, J, J, J, J, J, J, J, J, J, J, J, J, J, J, J, J, J, J, J, J, J, J, J, J, J, J, J, J, J, J, J, J, J, J, J, J, J, J, J, J, J, J, J, J, J, J, J, J, J, J, J, J, J, J, J, J, J, J, J, J, J, J, J, J, J, J, J, J, J, J, J, J, J, J, J, J, J, J, J, J, J, J, J, J, J, J, J, J, J, J, J, J], hpOf [none, none, some (.var [.d (.sl 3 (rN p.Nodes)), .d (.sl 3 (rR p.Rules))]), some (.var [.d (.v (.slice none 0 0)), .d (.v (.slice none 0 0))]), some (.var [.arr 5 0 p.Nodes.length, .arr 6 0 p.Rules.length]), some (.nar 3 A []), some (.arr 3 (rR p.Rules)), some (.arr 1 (rI P)), some (.var [.arr 9 0 N.length, .d (.v (.slice none 0 0))]), some (.nar 3 (oN false N) [])], 10, 2⟩ = some (.exit 0, ⟨[J, .one (.c (.ptr 2 0 0)), .one (.c (.ptr 3 0 0)), J, J, .one (.c (.arr 4 0 p.Nodes.length)), .one (.c (.ptr 5 0 0)), J, J, J, J, J, J, J, J, J, J, J, J, J, J, J, J, J, J, J, J, J, J, J, J, J, J, J, J, J, J, J, J, J, J, J, J, J, J, J, J, J, J, J, J, J, J, J, J, J, J, J, J, J, J, J, J, J, J, J, J, J, J, J, J, J, J, J, J, J, J, J, J, J, J, J, J, J, J, J, J, J, J, J, J, J, J, J, J, J, J, J, J, J, J, J, J, J, J, J, J], hpOf [none, none, some (.var [.d (.sl 3 (rN p.Nodes)), .d (.sl 3 (rR p.Rules))]), some (.var [.d (.v (.slice none 0 0)), .d (.v (.slice none 0 0))]), some (.arr 1 (rI (tdN R xs i (P, N)).1)), some (.var [.arr 6 0 (tdN R xs i (P, N)).2.length, .d (.v (.slice none 0 0))]), some (.nar 3 (oN false (tdN R xs i (P, N)).2) [])], 7, 2⟩)
  | [], i, P, N, A, hd, hi, hP, hN, hA => by
    have e : (i : Int) = (p.Nodes.length : Int) := by simp at hi; omega
    rw [e]
    exact s_end1 p P N R A hn
  | x :: xs, i, P, N, A, hd, hi, hP, hN, hA => by
    obtain ⟨hg, hd⟩ := drop_cons' hd
    rw [List.length_cons] at hi
    have hx : x ∈ p.Nodes := List.mem_of_getElem? hg
    obtain ⟨b, hb⟩ : ∃ b, R[i]? = some b := ⟨R[i]'(by omega), List.getElem?_eq_getElem (by omega)⟩
    have hg2 : A[((i : Nat) : Int).toNat]? = some (oNd false x) := hA i x (Nat.le_refl _) hg
    have hb2 : R[((i : Nat) : Int).toNat]? = some b := hb
    have hi2 : (0 : Int) ≤ (i : Int) ∧ (i : Int) < (p.Nodes.length : Int) := by omega
    rw [tdN, tdStep, Ri1 R i b hb]
    cases b with
    | false =>
      rw [s_skip1 p P N R A i hn hi2 hb2, if_neg (by simp)]
      exact s_run1 p R hn hR hk hK xs (i + 1) P N A hd (by omega) hP (by omega) (fun j y hj => hA j y (by omega))
    | true =>
      rw [if_pos rfl]
      have em := map_pl P i (N.length : Int) x.Kids (fun k h => (hK i x hg).2 k h)
      have ih := s_run1 p R hn hR hk hK xs (i + 1) (P.set i (N.length : Int)) (N ++ [(⟨x.Op, x.Text, x.Kids.map (pl P)⟩ : GNode)]) (A.set i [.d (.v (.int .i64 (x.Op))), .d (.v (.string (B (x.Text)))), .d .any]) hd (by omega) (by simpa using hP) (by simp; omega) (fun j y hj hy => by rw [List.getElem?_set_ne (by omega)]; exact hA j y (by omega) hy)
      have h1 := s_take1 p P N R A i x (by omega) hP hn hi2 hg2 hb2 (hk x hx).2 (hk x hx).1
      rw [show ((i : Nat) : Int).toNat = i from rfl, em] at h1
      rw [h1]
      exact ih
theorem s_run0 (p : GProgram) (R : List Bool) (hn : p.Nodes.length ≤ 200) (hR : R.length = p.Nodes.length) (hk : KidsR p) (hK : KidsIn p) : ∀ (xs : List GNode) (i : Nat) (P : List Int) (A : List (List O)), p.Nodes.drop i = xs → i + xs.length = p.Nodes.length → P.length = p.Nodes.length → (∀ j x, i ≤ j → p.Nodes[j]? = some x → A[j]? = some (oNd false x)) →
    ((tdN R xs i (P, [])).2 = [] → loopC Try.prog T1 (fnL Try.prog T1 L1) 5 (cq Try.f5 [0, 0, 1, 0, 1, 1, 1, 1, 1, 1]) ⟨[J, .one (.c (.ptr 2 0 0)), .one (.c (.ptr 3 0 0)), .one (.c (.ptr 4 0 0)), .one (.c (.d (.sl 1 (rB R)))), .one (.c (.arr 7 0 p.Nodes.length)), .one (.c (.ptr 8 0 0)), .one (.c (.d (.v (.int .i64 ((i : Int)))))), J, J, J, J, J, J, J, J, J, J, J, J, J, J, J, J, J, J, J, J, J, J, J, J, J, J, J, J, J, J, J, J, J, J, J, J, J, J, J, J, J, J, J, J, J, J, J, J, J, J, J, J, J, J, J, J, J, J, J, J, J, J, J, J, J, J, J, J, J, J, J, J, J, J, J, J, J, J, J, J, J, J, J, J, J, J, J, J, J, J, J, J, J, J, J, J, J, J, J], hpOf [none, none, some (.var [.d (.sl 3 (rN p.Nodes)), .d (.sl 3 (rR p.Rules))]), some (.var [.d (.v (.slice none 0 0)), .d (.v (.slice none 0 0))]), some (.var [.arr 5 0 p.Nodes.length, .arr 6 0 p.Rules.length]), some (.nar 3 A []), some (.arr 3 (rR p.Rules)), some (.arr 1 (rI P)), some (.var [.d (.v (.slice none 0 0)), .d (.v (.slice none 0 0))])], 9, 2⟩ = some (.exit 0, ⟨[J, .one (.c (.ptr 2 0 0)), .one (.c (.ptr 3 0 0)), J, J, .one (.c (.arr 4 0 p.Nodes.length)), .one (.c (.ptr 5 0 0)), J, J, J, J, J, J, J, J, J, J, J, J, J, J, J, J, J, J, J, J, J, J, J, J, J, J, J, J, J, J, J, J, J, J, J, J, J, J, J, J, J, J, J, J, J, J, J, J, J, J, J, J, J, J, J, J, J, J, J, J, J, J, J, J, J, J, J, J, J, J, J, J, J, J, J, J, J, J, J, J, J, J, J, J, J, J, J, J, J, J, J, J, J, J, J, J, J, J, J, J], hpOf [none, none, some (.var [.d (.sl 3 (rN p.Nodes)), .d (.sl 3 (rR p.Rules))]), some (.var [.d (.v (.slice none 0 0)), .d (.v (.slice none 0 0))]), some (.arr 1 (rI (tdN R xs i (P, [])).1)), some (.var [.d (.v (.slice none 0 0)), .d (.v (.slice none 0 0))])], 6, 2⟩)) ∧ ((tdN R xs i (P, [])).2 ≠ [] → loopC Try.prog T1 (fnL Try.prog T1 L1) 5 (cq Try.f5 [0, 0, 1, 0, 1, 1, 1, 1, 1, 1]) ⟨[J, .one (.c (.ptr 2 0 0)), .one (.c (.ptr 3 0 0)), .one (.c (.ptr 4 0 0)), .one (.c (.d (.sl 1 (rB R)))), .one (.c (.arr 7 0 p.Nodes.length)), .one (.c (.ptr 8 0 0)), .one (.c (.d (.v (.int .i64 ((i : Int)))))), J, J, J, J, J, J, J, J, J, J, J, J, J, J, J, J, J, J, J, J, J, J, J, J, J, J, J, J, J, J, J, J, J, J, J, J, J, J, J, J, J, J, J, J, J, J, J, J, J, J, J, J, J, J, J, J, J, J, J, J, J, J, J, J, J, J, J, J, J, J, J, J, J, J, J, J, J, J, J, J, J, J, J, J, J, J, J, J, J, J, J, J, J, J, J, J, J, J, J], hpOf [none, none, some (.var [.d (.sl 3 (rN p.Nodes)), .d (.sl 3 (rR p.Rules))]), some (.var [.d (.v (.slice none 0 0)), .d (.v (.slice none 0 0))]), some (.var [.arr 5 0 p.Nodes.length, .arr 6 0 p.Rules.length]), some (.nar 3 A []), some (.arr 3 (rR p.Rules)), some (.arr 1 (rI P)), some (.var [.d (.v (.slice none 0 0)), .d (.v (.slice none 0 0))])], 9, 2⟩ = some (.exit 0, ⟨[J, .one (.c (.ptr 2 0 0)), .one (.c (.ptr 3 0 0)), J, J, .one (.c (.arr 4 0 p.Nodes.length)), .one (.c (.ptr 5 0 0)), J, J, J, J, J, J, J, J, J, J, J, J, J, J, J, J, J, J, J, J, J, J, J, J, J, J, J, J, J, J, J, J, J, J, J, J, J, J, J, J, J, J, J, J, J, J, J, J, J, J, J, J, J, J, J, J, J, J, J, J, J, J, J, J, J, J, J, J, J, J, J, J, J, J, J, J, J, J, J, J, J, J, J, J, J, J, J, J, J, J, J, J, J, J, J, J, J, J, J, J], hpOf [none, none, some (.var [.d (.sl 3 (rN p.Nodes)), .d (.sl 3 (rR p.Rules))]), some (.var [.d (.v (.slice none 0 0)), .d (.v (.slice none 0 0))]), some (.arr 1 (rI (tdN R xs i (P, [])).1)), some (.var [.arr 6 0 (tdN R xs i (P, [])).2.length, .d (.v (.slice none 0 0))]), some (.nar 3 (oN false (tdN R xs i (P, [])).2) [])], 7, 2⟩))
  | [], i, P, A, hd, hi, hP, hA => by
    have e : (i : Int) = (p.Nodes.length : Int) := by simp at hi; omega
    refine ⟨fun _ => ?_, fun h => absurd rfl h⟩
    rw [e]
    exact s_end0 p P [] R A hn
  | x :: xs, i, P, A, hd, hi, hP, hA => by
    obtain ⟨hg, hd⟩ := drop_cons' hd
    rw [List.length_cons] at hi
    have hx : x ∈ p.Nodes := List.mem_of_getElem? hg
    obtain ⟨b, hb⟩ : ∃ b, R[i]? = some b := ⟨R[i]'(by omega), List.getElem?_eq_getElem (by omega)⟩
    have hg2 : A[((i : Nat) : Int).toNat]? = some (oNd false x) := hA i x (Nat.le_refl _) hg
    have hb2 : R[((i : Nat) : Int).toNat]? = some b := hb
    have hi2 : (0 : Int) ≤ (i : Int) ∧ (i : Int) < (p.Nodes.length : Int) := by omega
    rw [tdN, tdStep, Ri1 R i b hb]
    cases b with
    | false =>
      rw [s_skip0 p P [] R A i hn hi2 hb2, if_neg (by simp)]
      exact s_run0 p R hn hR hk hK xs (i + 1) P A hd (by omega) hP (fun j y hj => hA j y (by omega))
    | true =>
      rw [if_pos rfl]
      have em := map_pl P i (([] : List GNode).length : Int) x.Kids (fun k h => (hK i x hg).2 k h)
      have ih := s_run1 p R hn hR hk hK xs (i + 1) (P.set i (([] : List GNode).length : Int)) ([] ++ [(⟨x.Op, x.Text, x.Kids.map (pl P)⟩ : GNode)]) (A.set i [.d (.v (.int .i64 (x.Op))), .d (.v (.string (B (x.Text)))), .d .any]) hd (by omega) (by simpa using hP) (by simp) (fun j y hj hy => by rw [List.getElem?_set_ne (by omega)]; exact hA j y (by omega) hy)
      refine ⟨fun h => absurd h (tdN_ne R xs _ _ (by simp)), fun _ => ?_⟩
      have h1 := s_take0 p P [] R A i x rfl hP hn hi2 hg2 hb2 (hk x hx).2 (hk x hx).1
      rw [show ((i : Nat) : Int).toNat = i from rfl, em] at h1
      rw [h1]
      exact ih

theorem sr_step00 (p : GProgram) (P : List Int) (N : List GNode) (Q : List GRule) (i : Int) (r : GRule) (hQ : Q = []) (hP : P.length = p.Nodes.length) (hn : p.Nodes.length ≤ 200) (hr : p.Rules.length ≤ 1048576) (hi : 0 ≤ i ∧ i < p.Rules.length) (hs : p.Rules[i.toNat]? = some r) (hD : 0 ≤ r.Do ∧ r.Do < (p.Nodes.length : Int)) (hI : r.If < (p.Nodes.length : Int)) : loopC Try.prog T1 (fnL Try.prog T1 L1) 5 (cq Try.f5 [0, 0, 1, 0, 1, 1, 1, 1, 1, 1, 1]) ⟨[J, .one (.c (.ptr 2 0 0)), .one (.c (.ptr 3 0 0)), J, J, .one (.c (.arr 4 0 p.Nodes.length)), .one (.c (.ptr 5 0 0)), J, J, J, .one (.c (.d (.v (.int .i64 (i))))), J, J, J, J, J, J, J, J, J, J, J, J, J, J, J, J, J, J, J, J, J, J, J, J, J, J, J, J, J, J, J, J, J, J, J, J, J, J, J, J, J, J, J, J, J, J, J, J, J, J, J, J, J, J, J, J, J, J, J, J, J, J, J, J, J, J, J, J, J, J, J, J, J, J, J, J, J, J, J, J, J, J, J, J, J, J, J, J, J, J, J, J, J, J, J, J], hpOf [none, none, some (.var [.d (.sl 3 (rN p.Nodes)), .d (.sl 3 (rR p.Rules))]), some (.var [.d (.v (.slice none 0 0)), .d (.v (.slice none 0 0))]), some (.arr 1 (rI P)), some (.var [.d (.v (.slice none 0 0)), .d (.v (.slice none 0 0))])], 6, 2⟩ = loopC Try.prog T1 (fnL Try.prog T1 L1) 5 (cq Try.f5 [0, 0, 1, 0, 1, 1, 1, 1, 1, 1, 1]) ⟨[J, .one (.c (.ptr 2 0 0)), .one (.c (.ptr 3 0 0)), J, J, .one (.c (.arr 4 0 p.Nodes.length)), .one (.c (.ptr 5 0 0)), J, J, J, .one (.c (.d (.v (.int .i64 (i + 1))))), J, J, J, J, J, J, J, J, J, J, J, J, J, J, J, J, J, J, J, J, J, J, J, J, J, J, J, J, J, J, J, J, J, J, J, J, J, J, J, J, J, J, J, J, J, J, J, J, J, J, J, J, J, J, J, J, J, J, J, J, J, J, J, J, J, J, J, J, J, J, J, J, J, J, J, J, J, J, J, J, J, J, J, J, J, J, J, J, J, J, J, J, J, J, J, J], hpOf [none, none, some (.var [.d (.sl 3 (rN p.Nodes)), .d (.sl 3 (rR p.Rules))]), some (.var [.d (.v (.slice none 0 0)), .d (.v (.slice none 0 0))]), some (.arr 1 (rI P)), some (.var [.d (.v (.slice none 0 0)), .arr 6 0 (Q ++ [rTd P r]).length]), some (.arr 3 (rR (Q ++ [rTd P r])))], 7, 2⟩ := by
  have hg : (rR p.Rules)[i.toNat]? = some r.enc := by unfold rR; rw [List.getElem?_map, hs]; rfl
  simp only [GRule.enc] at hg
  have hroom : room = 70368744177664 := rfl
  obtain ⟨i1, i2⟩ := hi
  obtain ⟨d1, d2⟩ := hD
  have g2 := pl_get P r.Do d1 (by omega)
  have e1 : rR (Q ++ [rTd P r]) = rR Q ++ [(rTd P r).enc] := by simp [rR]
  have e2 : (Q ++ [rTd P r]).length = Q.length + 1 := by simp
  rw [e1, e2]
  subst hQ
  clear hs e1 e2
  simp only [GRule.enc, rTd, rR_nil, List.nil_append, List.length_nil, Nat.zero_add]
  by_cases h0 : 0 ≤ r.If
  · have g1 := pl_get P r.If h0 (by omega)
    simp only [if_pos h0]
    clear hP
    exact lph V5
  · simp only [if_neg h0]
    clear hP
    exact lph V5
theorem sr_end00 (p : GProgram) (P : List Int) (N : List GNode) (Q : List GRule) (i : Int) (h0 : 0 ≤ i) (hi : (p.Rules.length : Int) ≤ i) (hr : p.Rules.length ≤ 1048576) : loopC Try.prog T1 (fnL Try.prog T1 L1) 5 (cq Try.f5 [0, 0, 1, 0, 1, 1, 1, 1, 1, 1, 1]) ⟨[J, .one (.c (.ptr 2 0 0)), .one (.c (.ptr 3 0 0)), J, J, .one (.c (.arr 4 0 p.Nodes.length)), .one (.c (.ptr 5 0 0)), J, J, J, .one (.c (.d (.v (.int .i64 (i))))), J, J, J, J, J, J, J, J, J, J, J, J, J, J, J, J, J, J, J, J, J, J, J, J, J, J, J, J, J, J, J, J, J, J, J, J, J, J, J, J, J, J, J, J, J, J, J, J, J, J, J, J, J, J, J, J, J, J, J, J, J, J, J, J, J, J, J, J, J, J, J, J, J, J, J, J, J, J, J, J, J, J, J, J, J, J, J, J, J, J, J, J, J, J, J, J], hpOf [none, none, some (.var [.d (.sl 3 (rN p.Nodes)), .d (.sl 3 (rR p.Rules))]), some (.var [.d (.v (.slice none 0 0)), .d (.v (.slice none 0 0))]), some (.arr 1 (rI P)), some (.var [.d (.v (.slice none 0 0)), .d (.v (.slice none 0 0))])], 6, 2⟩ = some (.exit 4, ⟨[J, J, .one (.c (.ptr 2 0 0)), J, J, J, .one (.c (.ptr 3 0 0)), J, J, J, J, J, J, J, J, J, J, J, J, J, J, J, J, J, J, J, J, J, J, J, J, J, J, J, J, J, J, J, J, J, J, J, J, J, J, J, J, J, J, J, J, J, J, J, J, J, J, J, J, J, J, J, J, J, J, J, J, J, J, J, J, J, J, J, J, J, J, J, J, J, J, J, J, J, J, J, J, J, J, J, J, J, J, J, J, J, J, J, J, J, J, J, J, J, J, J, J], hpOf [none, none, some (.var [.d (.v (.slice none 0 0)), .d (.v (.slice none 0 0))]), some (.var [.d (.v (.slice none 0 0)), .d (.v (.slice none 0 0))])], 4, 2⟩) := by
  exact lph V5

theorem sr_step01 (p : GProgram) (P : List Int) (N : List GNode) (Q : List GRule) (i : Int) (r : GRule) (hQ : Q.length ≤ 1048576) (hP : P.length = p.Nodes.length) (hn : p.Nodes.length ≤ 200) (hr : p.Rules.length ≤ 1048576) (hi : 0 ≤ i ∧ i < p.Rules.length) (hs : p.Rules[i.toNat]? = some r) (hD : 0 ≤ r.Do ∧ r.Do < (p.Nodes.length : Int)) (hI : r.If < (p.Nodes.length : Int)) : loopC Try.prog T1 (fnL Try.prog T1 L1) 5 (cq Try.f5 [0, 0, 1, 0, 1, 1, 1, 1, 1, 1, 1]) ⟨[J, .one (.c (.ptr 2 0 0)), .one (.c (.ptr 3 0 0)), J, J, .one (.c (.arr 4 0 p.Nodes.length)), .one (.c (.ptr 5 0 0)), J, J, J, .one (.c (.d (.v (.int .i64 (i))))), J, J, J, J, J, J, J, J, J, J, J, J, J, J, J, J, J, J, J, J, J, J, J, J, J, J, J, J, J, J, J, J, J, J, J, J, J, J, J, J, J, J, J, J, J, J, J, J, J, J, J, J, J, J, J, J, J, J, J, J, J, J, J, J, J, J, J, J, J, J, J, J, J, J, J, J, J, J, J, J, J, J, J, J, J, J, J, J, J, J, J, J, J, J, J, J], hpOf [none, none, some (.var [.d (.sl 3 (rN p.Nodes)), .d (.sl 3 (rR p.Rules))]), some (.var [.d (.v (.slice none 0 0)), .d (.v (.slice none 0 0))]), some (.arr 1 (rI P)), some (.var [.d (.v (.slice none 0 0)), .arr 6 0 Q.length]), some (.arr 3 (rR Q))], 7, 2⟩ = loopC Try.prog T1 (fnL Try.prog T1 L1) 5 (cq Try.f5 [0, 0, 1, 0, 1, 1, 1, 1, 1, 1, 1]) ⟨[J, .one (.c (.ptr 2 0 0)), .one (.c (.ptr 3 0 0)), J, J, .one (.c (.arr 4 0 p.Nodes.length)), .one (.c (.ptr 5 0 0)), J, J, J, .one (.c (.d (.v (.int .i64 (i + 1))))), J, J, J, J, J, J, J, J, J, J, J, J, J, J, J, J, J, J, J, J, J, J, J, J, J, J, J, J, J, J, J, J, J, J, J, J, J, J, J, J, J, J, J, J, J, J, J, J, J, J, J, J, J, J, J, J, J, J, J, J, J, J, J, J, J, J, J, J, J, J, J, J, J, J, J, J, J, J, J, J, J, J, J, J, J, J, J, J, J, J, J, J, J, J, J, J], hpOf [none, none, some (.var [.d (.sl 3 (rN p.Nodes)), .d (.sl 3 (rR p.Rules))]), some (.var [.d (.v (.slice none 0 0)), .d (.v (.slice none 0 0))]), some (.arr 1 (rI P)), some (.var [.d (.v (.slice none 0 0)), .arr 6 0 (Q ++ [rTd P r]).length]), some (.arr 3 (rR (Q ++ [rTd P r])))], 7, 2⟩ := by
  have hg : (rR p.Rules)[i.toNat]? = some r.enc := by unfold rR; rw [List.getElem?_map, hs]; rfl
  simp only [GRule.enc] at hg
  have hroom : room = 70368744177664 := rfl
  obtain ⟨i1, i2⟩ := hi
  obtain ⟨d1, d2⟩ := hD
  have g2 := pl_get P r.Do d1 (by omega)
  have t2 := rR_tk Q
  have e1 : rR (Q ++ [rTd P r]) = rR Q ++ [(rTd P r).enc] := by simp [rR]
  have e2 : (Q ++ [rTd P r]).length = Q.length + 1 := by simp
  rw [e1, e2]
  clear hs e1 e2
  simp only [GRule.enc, rTd]
  by_cases h0 : 0 ≤ r.If
  · have g1 := pl_get P r.If h0 (by omega)
    simp only [if_pos h0]
    clear hP
    exact lph V5
  · simp only [if_neg h0]
    clear hP
    exact lph V5
theorem sr_end01 (p : GProgram) (P : List Int) (N : List GNode) (Q : List GRule) (i : Int) (h0 : 0 ≤ i) (hi : (p.Rules.length : Int) ≤ i) (hr : p.Rules.length ≤ 1048576) : loopC Try.prog T1 (fnL Try.prog T1 L1) 5 (cq Try.f5 [0, 0, 1, 0, 1, 1, 1, 1, 1, 1, 1]) ⟨[J, .one (.c (.ptr 2 0 0)), .one (.c (.ptr 3 0 0)), J, J, .one (.c (.arr 4 0 p.Nodes.length)), .one (.c (.ptr 5 0 0)), J, J, J, .one (.c (.d (.v (.int .i64 (i))))), J, J, J, J, J, J, J, J, J, J, J, J, J, J, J, J, J, J, J, J, J, J, J, J, J, J, J, J, J, J, J, J, J, J, J, J, J, J, J, J, J, J, J, J, J, J, J, J, J, J, J, J, J, J, J, J, J, J, J, J, J, J, J, J, J, J, J, J, J, J, J, J, J, J, J, J, J, J, J, J, J, J, J, J, J, J, J, J, J, J, J, J, J, J, J, J], hpOf [none, none, some (.var [.d (.sl 3 (rN p.Nodes)), .d (.sl 3 (rR p.Rules))]), some (.var [.d (.v (.slice none 0 0)), .d (.v (.slice none 0 0))]), some (.arr 1 (rI P)), some (.var [.d (.v (.slice none 0 0)), .arr 6 0 Q.length]), some (.arr 3 (rR Q))], 7, 2⟩ = some (.exit 4, ⟨[J, J, .one (.c (.ptr 2 0 0)), J, J, J, .one (.c (.ptr 3 0 0)), J, J, J, J, J, J, J, J, J, J, J, J, J, J, J, J, J, J, J, J, J, J, J, J, J, J, J, J, J, J, J, J, J, J, J, J, J, J, J, J, J, J, J, J, J, J, J, J, J, J, J, J, J, J, J, J, J, J, J, J, J, J, J, J, J, J, J, J, J, J, J, J, J, J, J, J, J, J, J, J, J, J, J, J, J, J, J, J, J, J, J, J, J, J, J, J, J, J, J, J], hpOf [none, none, some (.var [.d (.v (.slice none 0 0)), .d (.v (.slice none 0 0))]), some (.var [.d (.v (.slice none 0 0)), .arr 4 0 Q.length]), some (.arr 3 (rR Q))], 5, 2⟩) := by
  exact lph V5

theorem sr_run0 (p : GProgram) (P : List Int) (N : List GNode) (hP : P.length = p.Nodes.length) (hn : p.Nodes.length ≤ 200) (hr : p.Rules.length ≤ 1048576) (hD : ∀ r ∈ p.Rules, (0 ≤ r.Do ∧ r.Do < (p.Nodes.length : Int)) ∧ r.If < (p.Nodes.length : Int)) : ∀ (C A Q : List GRule) (i : Int), i = A.length → p.Rules = A ++ C → Q = A.map (rTd P) → loopC Try.prog T1 (fnL Try.prog T1 L1) 5 (cq Try.f5 [0, 0, 1, 0, 1, 1, 1, 1, 1, 1, 1]) ⟨[J, .one (.c (.ptr 2 0 0)), .one (.c (.ptr 3 0 0)), J, J, .one (.c (.arr 4 0 p.Nodes.length)), .one (.c (.ptr 5 0 0)), J, J, J, .one (.c (.d (.v (.int .i64 (i))))), J, J, J, J, J, J, J, J, J, J, J, J, J, J, J, J, J, J, J, J, J, J, J, J, J, J, J, J, J, J, J, J, J, J, J, J, J, J, J, J, J, J, J, J, J, J, J, J, J, J, J, J, J, J, J, J, J, J, J, J, J, J, J, J, J, J, J, J, J, J, J, J, J, J, J, J, J, J, J, J, J, J, J, J, J, J, J, J, J, J, J, J, J, J, J, J], hpOf [none, none, some (.var [.d (.sl 3 (rN p.Nodes)), .d (.sl 3 (rR p.Rules))]), some (.var [.d (.v (.slice none 0 0)), .d (.v (.slice none 0 0))]), some (.arr 1 (rI P)), some (.var [.d (.v (.slice none 0 0)), .arr 6 0 Q.length]), some (.arr 3 (rR Q))], 7, 2⟩ = some (.exit 4, ⟨[J, J, .one (.c (.ptr 2 0 0)), J, J, J, .one (.c (.ptr 3 0 0)), J, J, J, J, J, J, J, J, J, J, J, J, J, J, J, J, J, J, J, J, J, J, J, J, J, J, J, J, J, J, J, J, J, J, J, J, J, J, J, J, J, J, J, J, J, J, J, J, J, J, J, J, J, J, J, J, J, J, J, J, J, J, J, J, J, J, J, J, J, J, J, J, J, J, J, J, J, J, J, J, J, J, J, J, J, J, J, J, J, J, J, J, J, J, J, J, J, J, J, J], hpOf [none, none, some (.var [.d (.v (.slice none 0 0)), .d (.v (.slice none 0 0))]), some (.var [.d (.v (.slice none 0 0)), .arr 4 0 (p.Rules.map (rTd P)).length]), some (.arr 3 (rR (p.Rules.map (rTd P))))], 5, 2⟩)
  | [], A, Q, i, hi, hs, hQ => by
    rw [List.append_nil] at hs
    subst hQ
    rw [← hs] at hi ⊢
    rw [hi]
    exact sr_end01 p P N _ _ (by omega) (by omega) hr
  | r :: C, A, Q, i, hi, hs, hQ => by
    have e : p.Rules[i.toNat]? = some r := by rw [hs]; exact mid_get _ _ _ _ (by omega)
    have hm : r ∈ p.Rules := List.mem_of_getElem? e
    have hl : A.length + 1 ≤ p.Rules.length := by rw [hs, List.length_append, List.length_cons]; omega
    rw [sr_step01 p P N Q i r (by rw [hQ]; simp; omega) hP hn hr (by omega) e (hD r hm).1 (hD r hm).2]
    exact sr_run0 p P N hP hn hr hD C (A ++ [r]) (Q ++ [rTd P r]) (i + 1) (by simp; omega) (by rw [hs]; simp) (by rw [hQ]; simp)
theorem sr_all0 (p : GProgram) (P : List Int) (N : List GNode) (hP : P.length = p.Nodes.length) (hn : p.Nodes.length ≤ 200) (hr : p.Rules.length ≤ 1048576) (hD : ∀ r ∈ p.Rules, (0 ≤ r.Do ∧ r.Do < (p.Nodes.length : Int)) ∧ r.If < (p.Nodes.length : Int)) (hne : p.Rules ≠ []) : loopC Try.prog T1 (fnL Try.prog T1 L1) 5 (cq Try.f5 [0, 0, 1, 0, 1, 1, 1, 1, 1, 1, 1]) ⟨[J, .one (.c (.ptr 2 0 0)), .one (.c (.ptr 3 0 0)), J, J, .one (.c (.arr 4 0 p.Nodes.length)), .one (.c (.ptr 5 0 0)), J, J, J, .one (.c (.d (.v (.int .i64 (0))))), J, J, J, J, J, J, J, J, J, J, J, J, J, J, J, J, J, J, J, J, J, J, J, J, J, J, J, J, J, J, J, J, J, J, J, J, J, J, J, J, J, J, J, J, J, J, J, J, J, J, J, J, J, J, J, J, J, J, J, J, J, J, J, J, J, J, J, J, J, J, J, J, J, J, J, J, J, J, J, J, J, J, J, J, J, J, J, J, J, J, J, J, J, J, J, J], hpOf [none, none, some (.var [.d (.sl 3 (rN p.Nodes)), .d (.sl 3 (rR p.Rules))]), some (.var [.d (.v (.slice none 0 0)), .d (.v (.slice none 0 0))]), some (.arr 1 (rI P)), some (.var [.d (.v (.slice none 0 0)), .d (.v (.slice none 0 0))])], 6, 2⟩ = some (.exit 4, ⟨[J, J, .one (.c (.ptr 2 0 0)), J, J, J, .one (.c (.ptr 3 0 0)), J, J, J, J, J, J, J, J, J, J, J, J, J, J, J, J, J, J, J, J, J, J, J, J, J, J, J, J, J, J, J, J, J, J, J, J, J, J, J, J, J, J, J, J, J, J, J, J, J, J, J, J, J, J, J, J, J, J, J, J, J, J, J, J, J, J, J, J, J, J, J, J, J, J, J, J, J, J, J, J, J, J, J, J, J, J, J, J, J, J, J, J, J, J, J, J, J, J, J, J], hpOf [none, none, some (.var [.d (.v (.slice none 0 0)), .d (.v (.slice none 0 0))]), some (.var [.d (.v (.slice none 0 0)), .arr 4 0 (p.Rules.map (rTd P)).length]), some (.arr 3 (rR (p.Rules.map (rTd P))))], 5, 2⟩) := by
  cases hs : p.Rules with
  | nil => exact absurd hs hne
  | cons r C =>
    have e : p.Rules[(0 : Int).toNat]? = some r := by rw [hs]; rfl
    have hm : r ∈ p.Rules := by rw [hs]; simp
    have h0 := sr_step00 p P N [] 0 r rfl hP hn hr (by rw [hs, List.length_cons]; omega) e (hD r hm).1 (hD r hm).2
    have h1 := sr_run0 p P N hP hn hr hD C [r] ([] ++ [rTd P r]) (0 + 1) rfl hs rfl
    rw [← hs, h0]
    exact h1

theorem sr_step10 (p : GProgram) (P : List Int) (N : List GNode) (Q : List GRule) (i : Int) (r : GRule) (hQ : Q = []) (hP : P.length = p.Nodes.length) (hn : p.Nodes.length ≤ 200) (hr : p.Rules.length ≤ 1048576) (hi : 0 ≤ i ∧ i < p.Rules.length) (hs : p.Rules[i.toNat]? = some r) (hD : 0 ≤ r.Do ∧ r.Do < (p.Nodes.length : Int)) (hI : r.If < (p.Nodes.length : Int)) : loopC Try.prog T1 (fnL Try.prog T1 L1) 5 (cq Try.f5 [0, 0, 1, 0, 1, 1, 1, 1, 1, 1, 1]) ⟨[J, .one (.c (.ptr 2 0 0)), .one (.c (.ptr 3 0 0)), J, J, .one (.c (.arr 4 0 p.Nodes.length)), .one (.c (.ptr 5 0 0)), J, J, J, .one (.c (.d (.v (.int .i64 (i))))), J, J, J, J, J, J, J, J, J, J, J, J, J, J, J, J, J, J, J, J, J, J, J, J, J, J, J, J, J, J, J, J, J, J, J, J, J, J, J, J, J, J, J, J, J, J, J, J, J, J, J, J, J, J, J, J, J, J, J, J, J, J, J, J, J, J, J, J, J, J, J, J, J, J, J, J, J, J, J, J, J, J, J, J, J, J, J, J, J, J, J, J, J, J, J, J], hpOf [none, none, some (.var [.d (.sl 3 (rN p.Nodes)), .d (.sl 3 (rR p.Rules))]), some (.var [.d (.v (.slice none 0 0)), .d (.v (.slice none 0 0))]), some (.arr 1 (rI P)), some (.var [.arr 6 0 N.length, .d (.v (.slice none 0 0))]), some (.nar 3 (oN false N) [])], 7, 2⟩ = loopC Try.prog T1 (fnL Try.prog T1 L1) 5 (cq Try.f5 [0, 0, 1, 0, 1, 1, 1, 1, 1, 1, 1]) ⟨[J, .one (.c (.ptr 2 0 0)), .one (.c (.ptr 3 0 0)), J, J, .one (.c (.arr 4 0 p.Nodes.length)), .one (.c (.ptr 5 0 0)), J, J, J, .one (.c (.d (.v (.int .i64 (i + 1))))), J, J, J, J, J, J, J, J, J, J, J, J, J, J, J, J, J, J, J, J, J, J, J, J, J, J, J, J, J, J, J, J, J, J, J, J, J, J, J, J, J, J, J, J, J, J, J, J, J, J, J, J, J, J, J, J, J, J, J, J, J, J, J, J, J, J, J, J, J, J, J, J, J, J, J, J, J, J, J, J, J, J, J, J, J, J, J, J, J, J, J, J, J, J, J, J], hpOf [none, none, some (.var [.d (.sl 3 (rN p.Nodes)), .d (.sl 3 (rR p.Rules))]), some (.var [.d (.v (.slice none 0 0)), .d (.v (.slice none 0 0))]), some (.arr 1 (rI P)), some (.var [.arr 6 0 N.length, .arr 7 0 (Q ++ [rTd P r]).length]), some (.nar 3 (oN false N) []), some (.arr 3 (rR (Q ++ [rTd P r])))], 8, 2⟩ := by
  have hg : (rR p.Rules)[i.toNat]? = some r.enc := by unfold rR; rw [List.getElem?_map, hs]; rfl
  simp only [GRule.enc] at hg
  have hroom : room = 70368744177664 := rfl
  obtain ⟨i1, i2⟩ := hi
  obtain ⟨d1, d2⟩ := hD
  have g2 := pl_get P r.Do d1 (by omega)
  have e1 : rR (Q ++ [rTd P r]) = rR Q ++ [(rTd P r).enc] := by simp [rR]
  have e2 : (Q ++ [rTd P r]).length = Q.length + 1 := by simp
  rw [e1, e2]
  subst hQ
  clear hs e1 e2
  simp only [GRule.enc, rTd, rR_nil, List.nil_append, List.length_nil, Nat.zero_add]
  by_cases h0 : 0 ≤ r.If
  · have g1 := pl_get P r.If h0 (by omega)
    simp only [if_pos h0]
    clear hP
    exact lph V5
  · simp only [if_neg h0]
    clear hP
    exact lph V5
theorem sr_end10 (p : GProgram) (P : List Int) (N : List GNode) (Q : List GRule) (i : Int) (h0 : 0 ≤ i) (hi : (p.Rules.length : Int) ≤ i) (hr : p.Rules.length ≤ 1048576) : loopC Try.prog T1 (fnL Try.prog T1 L1) 5 (cq Try.f5 [0, 0, 1, 0, 1, 1, 1, 1, 1, 1, 1]) ⟨[J, .one (.c (.ptr 2 0 0)), .one (.c (.ptr 3 0 0)), J, J, .one (.c (.arr 4 0 p.Nodes.length)), .one (.c (.ptr 5 0 0)), J, J, J, .one (.c (.d (.v (.int .i64 (i))))), J, J, J, J, J, J, J, J, J, J, J, J, J, J, J, J, J, J, J, J, J, J, J, J, J, J, J, J, J, J, J, J, J, J, J, J, J, J, J, J, J, J, J, J, J, J, J, J, J, J, J, J, J, J, J, J, J, J, J, J, J, J, J, J, J, J, J, J, J, J, J, J, J, J, J, J, J, J, J, J, J, J, J, J, J, J, J, J, J, J, J, J, J, J, J, J], hpOf [none, none, some (.var [.d (.sl 3 (rN p.Nodes)), .d (.sl 3 (rR p.Rules))]), some (.var [.d (.v (.slice none 0 0)), .d (.v (.slice none 0 0))]), some (.arr 1 (rI P)), some (.var [.arr 6 0 N.length, .d (.v (.slice none 0 0))]), some (.nar 3 (oN false N) [])], 7, 2⟩ = some (.exit 4, ⟨[J, J, .one (.c (.ptr 2 0 0)), J, J, J, .one (.c (.ptr 3 0 0)), J, J, J, J, J, J, J, J, J, J, J, J, J, J, J, J, J, J, J, J, J, J, J, J, J, J, J, J, J, J, J, J, J, J, J, J, J, J, J, J, J, J, J, J, J, J, J, J, J, J, J, J, J, J, J, J, J, J, J, J, J, J, J, J, J, J, J, J, J, J, J, J, J, J, J, J, J, J, J, J, J, J, J, J, J, J, J, J, J, J, J, J, J, J, J, J, J, J, J, J], hpOf [none, none, some (.var [.d (.v (.slice none 0 0)), .d (.v (.slice none 0 0))]), some (.var [.arr 4 0 N.length, .d (.v (.slice none 0 0))]), some (.nar 3 (oN false N) [])], 5, 2⟩) := by
  exact lph V5

theorem sr_step11 (p : GProgram) (P : List Int) (N : List GNode) (Q : List GRule) (i : Int) (r : GRule) (hQ : Q.length ≤ 1048576) (hP : P.length = p.Nodes.length) (hn : p.Nodes.length ≤ 200) (hr : p.Rules.length ≤ 1048576) (hi : 0 ≤ i ∧ i < p.Rules.length) (hs : p.Rules[i.toNat]? = some r) (hD : 0 ≤ r.Do ∧ r.Do < (p.Nodes.length : Int)) (hI : r.If < (p.Nodes.length : Int)) : loopC Try.prog T1 (fnL Try.prog T1 L1) 5 (cq Try.f5 [0, 0, 1, 0, 1, 1, 1, 1, 1, 1, 1]) ⟨[J, .one (.c (.ptr 2 0 0)), .one (.c (.ptr 3 0 0)), J, J, .one (.c (.arr 4 0 p.Nodes.length)), .one (.c (.ptr 5 0 0)), J, J, J, .one (.c (.d (.v (.int .i64 (i))))), J, J, J, J, J, J, J, J, J, J, J, J, J, J, J, J, J, J, J, J, J, J, J, J, J, J, J, J, J, J, J, J, J, J, J, J, J, J, J, J, J, J, J, J, J, J, J, J, J, J, J, J, J, J, J, J, J, J, J, J, J, J, J, J, J, J, J, J, J, J, J, J, J, J, J, J, J, J, J, J, J, J, J, J, J, J, J, J, J, J, J, J, J, J, J, J], hpOf [none, none, some (.var [.d (.sl 3 (rN p.Nodes)), .d (.sl 3 (rR p.Rules))]), some (.var [.d (.v (.slice none 0 0)), .d (.v (.slice none 0 0))]), some (.arr 1 (rI P)), some (.var [.arr 6 0 N.length, .arr 7 0 Q.length]), some (.nar 3 (oN false N) []), some (.arr 3 (rR Q))], 8, 2⟩ = loopC Try.prog T1 (fnL Try.prog T1 L1) 5 (cq Try.f5 [0, 0, 1, 0, 1, 1, 1, 1, 1, 1, 1]) ⟨[J, .one (.c (.ptr 2 0 0)), .one (.c (.ptr 3 0 0)), J, J, .one (.c (.arr 4 0 p.Nodes.length)), .one (.c (.ptr 5 0 0)), J, J, J, .one (.c (.d (.v (.int .i64 (i + 1))))), J, J, J, J, J, J, J, J, J, J, J, J, J, J, J, J, J, J, J, J, J, J, J, J, J, J, J, J, J, J, J, J, J, J, J, J, J, J, J, J, J, J, J, J, J, J, J, J, J, J, J, J, J, J, J, J, J, J, J, J, J, J, J, J, J, J, J, J, J, J, J, J, J, J, J, J, J, J, J, J, J, J, J, J, J, J, J, J, J, J, J, J, J, J, J, J], hpOf [none, none, some (.var [.d (.sl 3 (rN p.Nodes)), .d (.sl 3 (rR p.Rules))]), some (.var [.d (.v (.slice none 0 0)), .d (.v (.slice none 0 0))]), some (.arr 1 (rI P)), some (.var [.arr 6 0 N.length, .arr 7 0 (Q ++ [rTd P r]).length]), some (.nar 3 (oN false N) []), some (.arr 3 (rR (Q ++ [rTd P r])))], 8, 2⟩ := by
  have hg : (rR p.Rules)[i.toNat]? = some r.enc := by unfold rR; rw [List.getElem?_map, hs]; rfl
  simp only [GRule.enc] at hg
  have hroom : room = 70368744177664 := rfl
  obtain ⟨i1, i2⟩ := hi
  obtain ⟨d1, d2⟩ := hD
  have g2 := pl_get P r.Do d1 (by omega)
  have t2 := rR_tk Q
  have e1 : rR (Q ++ [rTd P r]) = rR Q ++ [(rTd P r).enc] := by simp [rR]
  have e2 : (Q ++ [rTd P r]).length = Q.length + 1 := by simp
  rw [e1, e2]
  clear hs e1 e2
  simp only [GRule.enc, rTd]
  by_cases h0 : 0 ≤ r.If
  · have g1 := pl_get P r.If h0 (by omega)
    simp only [if_pos h0]
    clear hP
    exact lph V5
  · simp only [if_neg h0]
    clear hP
    exact lph V5
theorem sr_end11 (p : GProgram) (P : List Int) (N : List GNode) (Q : List GRule) (i : Int) (h0 : 0 ≤ i) (hi : (p.Rules.length : Int) ≤ i) (hr : p.Rules.length ≤ 1048576) : loopC Try.prog T1 (fnL Try.prog T1 L1) 5 (cq Try.f5 [0, 0, 1, 0, 1, 1, 1, 1, 1, 1, 1]) ⟨[J, .one (.c (.ptr 2 0 0)), .one (.c (.ptr 3 0 0)), J, J, .one (.c (.arr 4 0 p.Nodes.length)), .one (.c (.ptr 5 0 0)), J, J, J, .one (.c (.d (.v (.int .i64 (i))))), J, J, J, J, J, J, J, J, J, J, J, J, J, J, J, J, J, J, J, J, J, J, J, J, J, J, J, J, J, J, J, J, J, J, J, J, J, J, J, J, J, J, J, J, J, J, J, J, J, J, J, J, J, J, J, J, J, J, J, J, J, J, J, J, J, J, J, J, J, J, J, J, J, J, J, J, J, J, J, J, J, J, J, J, J, J, J, J, J, J, J, J, J, J, J, J], hpOf [none, none, some (.var [.d (.sl 3 (rN p.Nodes)), .d (.sl 3 (rR p.Rules))]), some (.var [.d (.v (.slice none 0 0)), .d (.v (.slice none 0 0))]), some (.arr 1 (rI P)), some (.var [.arr 6 0 N.length, .arr 7 0 Q.length]), some (.nar 3 (oN false N) []), some (.arr 3 (rR Q))], 8, 2⟩ = some (.exit 4, ⟨[J, J, .one (.c (.ptr 2 0 0)), J, J, J, .one (.c (.ptr 3 0 0)), J, J, J, J, J, J, J, J, J, J, J, J, J, J, J, J, J, J, J, J, J, J, J, J, J, J, J, J, J, J, J, J, J, J, J, J, J, J, J, J, J, J, J, J, J, J, J, J, J, J, J, J, J, J, J, J, J, J, J, J, J, J, J, J, J, J, J, J, J, J, J, J, J, J, J, J, J, J, J, J, J, J, J, J, J, J, J, J, J, J, J, J, J, J, J, J, J, J, J, J], hpOf [none, none, some (.var [.d (.v (.slice none 0 0)), .d (.v (.slice none 0 0))]), some (.var [.arr 4 0 N.length, .arr 5 0 Q.length]), some (.nar 3 (oN false N) []), some (.arr 3 (rR Q))], 6, 2⟩) := by
  exact lph V5

theorem sr_run1 (p : GProgram) (P : List Int) (N : List GNode) (hP : P.length = p.Nodes.length) (hn : p.Nodes.length ≤ 200) (hr : p.Rules.length ≤ 1048576) (hD : ∀ r ∈ p.Rules, (0 ≤ r.Do ∧ r.Do < (p.Nodes.length : Int)) ∧ r.If < (p.Nodes.length : Int)) : ∀ (C A Q : List GRule) (i : Int), i = A.length → p.Rules = A ++ C → Q = A.map (rTd P) → loopC Try.prog T1 (fnL Try.prog T1 L1) 5 (cq Try.f5 [0, 0, 1, 0, 1, 1, 1, 1, 1, 1, 1]) ⟨[J, .one (.c (.ptr 2 0 0)), .one (.c (.ptr 3 0 0)), J, J, .one (.c (.arr 4 0 p.Nodes.length)), .one (.c (.ptr 5 0 0)), J, J, J, .one (.c (.d (.v (.int .i64 (i))))), J, J, J, J, J, J, J, J, J, J, J, J, J, J, J, J, J, J, J, J, J, J, J, J, J, J, J, J, J, J, J, J, J, J, J, J, J, J, J, J, J, J, J, J, J, J, J, J, J, J, J, J, J, J, J, J, J, J, J, J, J, J, J, J, J, J, J, J, J, J, J, J, J, J, J, J, J, J, J, J, J, J, J, J, J, J, J, J, J, J, J, J, J, J, J, J], hpOf [none, none, some (.var [.d (.sl 3 (rN p.Nodes)), .d (.sl 3 (rR p.Rules))]), some (.var [.d (.v (.slice none 0 0)), .d (.v (.slice none 0 0))]), some (.arr 1 (rI P)), some (.var [.arr 6 0 N.length, .arr 7 0 Q.length]), some (.nar 3 (oN false N) []), some (.arr 3 (rR Q))], 8, 2⟩ = some (.exit 4, ⟨[J, J, .one (.c (.ptr 2 0 0)), J, J, J, .one (.c (.ptr 3 0 0)), J, J, J, J, J, J, J, J, J, J, J, J, J, J, J, J, J, J, J, J, J, J, J, J, J, J, J, J, J, J, J, J, J, J, J, J, J, J, J, J, J, J, J, J, J, J, J, J, J, J, J, J, J, J, J, J, J, J, J, J, J, J, J, J, J, J, J, J, J, J, J, J, J, J, J, J, J, J, J, J, J, J, J, J, J, J, J, J, J, J, J, J, J, J, J, J, J, J, J, J], hpOf [none, none, some (.var [.d (.v (.slice none 0 0)), .d (.v (.slice none 0 0))]), some (.var [.arr 4 0 N.length, .arr 5 0 (p.Rules.map (rTd P)).length]), some (.nar 3 (oN false N) []), some (.arr 3 (rR (p.Rules.map (rTd P))))], 6, 2⟩)
  | [], A, Q, i, hi, hs, hQ => by
    rw [List.append_nil] at hs
    subst hQ
    rw [← hs] at hi ⊢
    rw [hi]
    exact sr_end11 p P N _ _ (by omega) (by omega) hr
  | r :: C, A, Q, i, hi, hs, hQ => by
    have e : p.Rules[i.toNat]? = some r := by rw [hs]; exact mid_get _ _ _ _ (by omega)
    have hm : r ∈ p.Rules := List.mem_of_getElem? e
    have hl : A.length + 1 ≤ p.Rules.length := by rw [hs, List.length_append, List.length_cons]; omega
    rw [sr_step11 p P N Q i r (by rw [hQ]; simp; omega) hP hn hr (by omega) e (hD r hm).1 (hD r hm).2]
    exact sr_run1 p P N hP hn hr hD C (A ++ [r]) (Q ++ [rTd P r]) (i + 1) (by simp; omega) (by rw [hs]; simp) (by rw [hQ]; simp)
theorem sr_all1 (p : GProgram) (P : List Int) (N : List GNode) (hP : P.length = p.Nodes.length) (hn : p.Nodes.length ≤ 200) (hr : p.Rules.length ≤ 1048576) (hD : ∀ r ∈ p.Rules, (0 ≤ r.Do ∧ r.Do < (p.Nodes.length : Int)) ∧ r.If < (p.Nodes.length : Int)) (hne : p.Rules ≠ []) : loopC Try.prog T1 (fnL Try.prog T1 L1) 5 (cq Try.f5 [0, 0, 1, 0, 1, 1, 1, 1, 1, 1, 1]) ⟨[J, .one (.c (.ptr 2 0 0)), .one (.c (.ptr 3 0 0)), J, J, .one (.c (.arr 4 0 p.Nodes.length)), .one (.c (.ptr 5 0 0)), J, J, J, .one (.c (.d (.v (.int .i64 (0))))), J, J, J, J, J, J, J, J, J, J, J, J, J, J, J, J, J, J, J, J, J, J, J, J, J, J, J, J, J, J, J, J, J, J, J, J, J, J, J, J, J, J, J, J, J, J, J, J, J, J, J, J, J, J, J, J, J, J, J, J, J, J, J, J, J, J, J, J, J, J, J, J, J, J, J, J, J, J, J, J, J, J, J, J, J, J, J, J, J, J, J, J, J, J, J, J], hpOf [none, none, some (.var [.d (.sl 3 (rN p.Nodes)), .d (.sl 3 (rR p.Rules))]), some (.var [.d (.v (.slice none 0 0)), .d (.v (.slice none 0 0))]), some (.arr 1 (rI P)), some (.var [.arr 6 0 N.length, .d (.v (.slice none 0 0))]), some (.nar 3 (oN false N) [])], 7, 2⟩ = some (.exit 4, ⟨[J, J, .one (.c (.ptr 2 0 0)), J, J, J, .one (.c (.ptr 3 0 0)), J, J, J, J, J, J, J, J, J, J, J, J, J, J, J, J, J, J, J, J, J, J, J, J, J, J, J, J, J, J, J, J, J, J, J, J, J, J, J, J, J, J, J, J, J, J, J, J, J, J, J, J, J, J, J, J, J, J, J, J, J, J, J, J, J, J, J, J, J, J, J, J, J, J, J, J, J, J, J, J, J, J, J, J, J, J, J, J, J, J, J, J, J, J, J, J, J, J, J, J], hpOf [none, none, some (.var [.d (.v (.slice none 0 0)), .d (.v (.slice none 0 0))]), some (.var [.arr 4 0 N.length, .arr 5 0 (p.Rules.map (rTd P)).length]), some (.nar 3 (oN false N) []), some (.arr 3 (rR (p.Rules.map (rTd P))))], 6, 2⟩) := by
  cases hs : p.Rules with
  | nil => exact absurd hs hne
  | cons r C =>
    have e : p.Rules[(0 : Int).toNat]? = some r := by rw [hs]; rfl
    have hm : r ∈ p.Rules := by rw [hs]; simp
    have h0 := sr_step10 p P N [] 0 r rfl hP hn hr (by rw [hs, List.length_cons]; omega) e (hD r hm).1 (hD r hm).2
    have h1 := sr_run1 p P N hP hn hr hD C [r] ([] ++ [rTd P r]) (0 + 1) rfl hs rfl
    rw [← hs, h0]
    exact h1
end
end Go.Vsi
