/- What the functions of the program, of the reference and of the law do (a part of it). -/
import Derived.Test.YtgphmleklcicaaaQ1
namespace Go.Vsi
open Go.Proofs
noncomputable section
set_option maxRecDepth 100000
set_option maxHeartbeats 4000000
set_option linter.unusedSimpArgs false
set_option linter.unusedVariables false
attribute [local go_sem ↓] IX9
theorem copyInts_ok1 (ks : List Int) (hx : ks.length ≤ 1048576) : fnL Try.prog T1 L1 38 [.c (.d (.sl 1 (rI ks)))] [] = some (.one (.c (.arr 0 0 ks.length)), [some (.arr 1 (rI ks))]) := by
  have hroom : room = 70368744177664 := rfl
  have t1 := rI_tk ks
  exact fn V38 Try.func38
theorem oNs (xs : List GNode) (x : GNode) : oN false (xs ++ [x]) = oN false xs ++ [oNd false x] := by simp [oN]

theorem copyProgram_next1 (p : GProgram) (hn : p.Nodes.length ≤ 1048576) (hr : p.Rules.length ≤ 1048576) (x : GNode) (A R : List GNode) (i : Int) (hi : i = A.length) (hs : p.Nodes = A ++ x :: R) (hx : x.Kids.length ≤ 1048576) : loopC Try.prog T1 (fnL Try.prog T1 L1) 19 (cq Try.f19 [0, 0, 1, 0, 1, 1]) ⟨[J, J, .one (.c (.ptr 0 0 0)), .one (.c (.ptr 1 0 0)), J, J, J, J, J, J, J, J, .one (.c (.d (.sl 3 (rN p.Nodes)))), .one (.c (.d (.v (.int .i64 ((p.Nodes.length : Int)))))), .one (.c (.d (.v (.int .i64 (i))))), J, J, J, J, J, J, J, J, J, J, J, J, J, J, J], hpOf [some (.var [.d (.v (.slice none 0 0)), .d (.v (.slice none 0 0))]), some (.var [.arr 2 0 A.length, .arr 3 0 p.Rules.length]), some (.nar 3 (oN false A) []), some (.arr 3 (rR p.Rules))], 4, 0⟩ = loopC Try.prog T1 (fnL Try.prog T1 L1) 19 (cq Try.f19 [0, 0, 1, 0, 1, 1]) ⟨[J, J, .one (.c (.ptr 0 0 0)), .one (.c (.ptr 1 0 0)), J, J, J, J, J, J, J, J, .one (.c (.d (.sl 3 (rN p.Nodes)))), .one (.c (.d (.v (.int .i64 ((p.Nodes.length : Int)))))), .one (.c (.d (.v (.int .i64 (i + 1))))), J, J, J, J, J, J, J, J, J, J, J, J, J, J, J], hpOf [some (.var [.d (.v (.slice none 0 0)), .d (.v (.slice none 0 0))]), some (.var [.arr 2 0 (A ++ [x]).length, .arr 3 0 p.Rules.length]), some (.nar 3 (oN false (A ++ [x])) []), some (.arr 3 (rR p.Rules))], 4, 0⟩ := by
  have hg : (rN p.Nodes)[i.toNat]? = some x.enc := by rw [hs]; unfold rN; rw [List.map_append, List.map_cons]; exact mid_get _ _ _ _ (by simp; omega)
  have hl : i < (p.Nodes.length : Int) := by rw [hs]; simp; omega
  have hroom : room = 70368744177664 := rfl
  rw [encNd] at hg
  have ea : (A ++ [x]).length = A.length + 1 := by simp
  have hi0 : 0 ≤ i := by omega
  have hA : A.length ≤ 1048576 := by rw [hs] at hn; simp at hn; omega
  rw [ea, oNs]
  simp only [oNd, oK]
  have t1 := rI_tk x.Kids
  have h1 := copyInts_ok1 x.Kids hx
  clear ea hs hi
  exact lp V19

theorem copyProgram_next0 (p : GProgram) (hn : p.Nodes.length ≤ 1048576) (hr : p.Rules.length ≤ 1048576) (x : GNode) (R : List GNode) (hs : p.Nodes = x :: R) (hx : x.Kids.length ≤ 1048576) : loopC Try.prog T1 (fnL Try.prog T1 L1) 19 (cq Try.f19 [0, 0, 1, 0, 1, 1]) ⟨[J, J, .one (.c (.ptr 0 0 0)), .one (.c (.ptr 1 0 0)), J, J, J, J, J, J, J, J, .one (.c (.d (.sl 3 (rN p.Nodes)))), .one (.c (.d (.v (.int .i64 ((p.Nodes.length : Int)))))), .one (.c (.d (.v (.int .i64 (0))))), J, J, J, J, J, J, J, J, J, J, J, J, J, J, J], hpOf [some (.var [.d (.v (.slice none 0 0)), .d (.v (.slice none 0 0))]), some (.var [.d (.v (.slice none 0 0)), .arr 2 0 p.Rules.length]), some (.arr 3 (rR p.Rules))], 3, 0⟩ = loopC Try.prog T1 (fnL Try.prog T1 L1) 19 (cq Try.f19 [0, 0, 1, 0, 1, 1]) ⟨[J, J, .one (.c (.ptr 0 0 0)), .one (.c (.ptr 1 0 0)), J, J, J, J, J, J, J, J, .one (.c (.d (.sl 3 (rN p.Nodes)))), .one (.c (.d (.v (.int .i64 ((p.Nodes.length : Int)))))), .one (.c (.d (.v (.int .i64 (1))))), J, J, J, J, J, J, J, J, J, J, J, J, J, J, J], hpOf [some (.var [.d (.v (.slice none 0 0)), .d (.v (.slice none 0 0))]), some (.var [.arr 2 0 [x].length, .arr 3 0 p.Rules.length]), some (.nar 3 (oN false [x]) []), some (.arr 3 (rR p.Rules))], 4, 0⟩ := by
  have hg : (rN p.Nodes)[(0 : Int).toNat]? = some x.enc := by rw [hs]; rfl
  have hl : (0 : Int) < (p.Nodes.length : Int) := by rw [hs, List.length_cons]; omega
  have hroom : room = 70368744177664 := rfl
  have hn0 : (0 : Int).toNat = 0 := rfl
  have hz0 : (0 : Int) + 1 = 1 := rfl
  rw [hn0, encNd] at hg
  have ea : [x].length = 1 := rfl
  have eo : oN false [x] = [oNd false x] := rfl
  rw [ea, eo]
  simp only [oNd, oK]
  have t1 := rI_tk x.Kids
  have h1 := copyInts_ok1 x.Kids hx
  clear ea eo hs
  exact lp V19
theorem copyProgram_end1 (p : GProgram) (A : List GNode) (hn : p.Nodes.length ≤ 1048576) : loopC Try.prog T1 (fnL Try.prog T1 L1) 19 (cq Try.f19 [0, 0, 1, 0, 1, 1]) ⟨[J, J, .one (.c (.ptr 0 0 0)), .one (.c (.ptr 1 0 0)), J, J, J, J, J, J, J, J, .one (.c (.d (.sl 3 (rN p.Nodes)))), .one (.c (.d (.v (.int .i64 ((p.Nodes.length : Int)))))), .one (.c (.d (.v (.int .i64 ((p.Nodes.length : Int)))))), J, J, J, J, J, J, J, J, J, J, J, J, J, J, J], hpOf [some (.var [.d (.v (.slice none 0 0)), .d (.v (.slice none 0 0))]), some (.var [.arr 2 0 A.length, .arr 3 0 p.Rules.length]), some (.nar 3 (oN false A) []), some (.arr 3 (rR p.Rules))], 4, 0⟩ = some (.exit 0, ⟨[J, J, .one (.c (.ptr 0 0 0)), .one (.c (.ptr 1 0 0)), J, J, J, J, J, J, J, J, J, J, J, J, J, J, J, J, J, J, J, J, J, J, J, J, J, J], hpOf [some (.var [.d (.v (.slice none 0 0)), .d (.v (.slice none 0 0))]), some (.var [.arr 2 0 A.length, .arr 3 0 p.Rules.length]), some (.nar 3 (oN false A) []), some (.arr 3 (rR p.Rules))], 4, 0⟩) := by
  exact lp V19
theorem copyProgram_end0 (p : GProgram) (hs : p.Nodes = []) : loopC Try.prog T1 (fnL Try.prog T1 L1) 19 (cq Try.f19 [0, 0, 1, 0, 1, 1]) ⟨[J, J, .one (.c (.ptr 0 0 0)), .one (.c (.ptr 1 0 0)), J, J, J, J, J, J, J, J, .one (.c (.d (.sl 3 (rN p.Nodes)))), .one (.c (.d (.v (.int .i64 ((p.Nodes.length : Int)))))), .one (.c (.d (.v (.int .i64 (0))))), J, J, J, J, J, J, J, J, J, J, J, J, J, J, J], hpOf [some (.var [.d (.v (.slice none 0 0)), .d (.v (.slice none 0 0))]), some (.var [.d (.v (.slice none 0 0)), .arr 2 0 p.Rules.length]), some (.arr 3 (rR p.Rules))], 3, 0⟩ = some (.exit 0, ⟨[J, J, .one (.c (.ptr 0 0 0)), .one (.c (.ptr 1 0 0)), J, J, J, J, J, J, J, J, J, J, J, J, J, J, J, J, J, J, J, J, J, J, J, J, J, J], hpOf [some (.var [.d (.v (.slice none 0 0)), .d (.v (.slice none 0 0))]), some (.var [.d (.v (.slice none 0 0)), .arr 2 0 p.Rules.length]), some (.arr 3 (rR p.Rules))], 3, 0⟩) := by
  have hl : p.Nodes.length = 0 := by rw [hs]; rfl
  have hl2 : rN p.Nodes = [] := by rw [hs]; rfl
  simp only [hl, hl2]
  exact lp V19
theorem copyProgram_run (p : GProgram) (hn : p.Nodes.length ≤ 1048576) (hr : p.Rules.length ≤ 1048576) (hk : ∀ x ∈ p.Nodes, x.Kids.length ≤ 1048576) : ∀ (R A : List GNode) (i : Int), i = A.length → p.Nodes = A ++ R → loopC Try.prog T1 (fnL Try.prog T1 L1) 19 (cq Try.f19 [0, 0, 1, 0, 1, 1]) ⟨[J, J, .one (.c (.ptr 0 0 0)), .one (.c (.ptr 1 0 0)), J, J, J, J, J, J, J, J, .one (.c (.d (.sl 3 (rN p.Nodes)))), .one (.c (.d (.v (.int .i64 ((p.Nodes.length : Int)))))), .one (.c (.d (.v (.int .i64 (i))))), J, J, J, J, J, J, J, J, J, J, J, J, J, J, J], hpOf [some (.var [.d (.v (.slice none 0 0)), .d (.v (.slice none 0 0))]), some (.var [.arr 2 0 A.length, .arr 3 0 p.Rules.length]), some (.nar 3 (oN false A) []), some (.arr 3 (rR p.Rules))], 4, 0⟩ = some (.exit 0, ⟨[J, J, .one (.c (.ptr 0 0 0)), .one (.c (.ptr 1 0 0)), J, J, J, J, J, J, J, J, J, J, J, J, J, J, J, J, J, J, J, J, J, J, J, J, J, J], hpOf [some (.var [.d (.v (.slice none 0 0)), .d (.v (.slice none 0 0))]), some (.var [.arr 2 0 p.Nodes.length, .arr 3 0 p.Rules.length]), some (.nar 3 (oN false p.Nodes) []), some (.arr 3 (rR p.Rules))], 4, 0⟩)
  | [], A, i, hi, hs => by
    rw [List.append_nil] at hs
    rw [hi]
    have h := copyProgram_end1 p p.Nodes hn
    rw [← hs]
    exact h
  | t :: R, A, i, hi, hs => by
    rw [copyProgram_next1 p hn hr t A R i hi hs (hk t (by rw [hs]; simp))]
    exact copyProgram_run p hn hr hk R (A ++ [t]) (i + 1) (by simp; omega) (by rw [hs]; simp)
theorem copyProgram_all (p : GProgram) (hs : p.Nodes ≠ []) (hn : p.Nodes.length ≤ 1048576) (hr : p.Rules.length ≤ 1048576) (hk : ∀ x ∈ p.Nodes, x.Kids.length ≤ 1048576) : loopC Try.prog T1 (fnL Try.prog T1 L1) 19 (cq Try.f19 [0, 0, 1, 0, 1, 1]) ⟨[J, J, .one (.c (.ptr 0 0 0)), .one (.c (.ptr 1 0 0)), J, J, J, J, J, J, J, J, .one (.c (.d (.sl 3 (rN p.Nodes)))), .one (.c (.d (.v (.int .i64 ((p.Nodes.length : Int)))))), .one (.c (.d (.v (.int .i64 (0))))), J, J, J, J, J, J, J, J, J, J, J, J, J, J, J], hpOf [some (.var [.d (.v (.slice none 0 0)), .d (.v (.slice none 0 0))]), some (.var [.d (.v (.slice none 0 0)), .arr 2 0 p.Rules.length]), some (.arr 3 (rR p.Rules))], 3, 0⟩ = some (.exit 0, ⟨[J, J, .one (.c (.ptr 0 0 0)), .one (.c (.ptr 1 0 0)), J, J, J, J, J, J, J, J, J, J, J, J, J, J, J, J, J, J, J, J, J, J, J, J, J, J], hpOf [some (.var [.d (.v (.slice none 0 0)), .d (.v (.slice none 0 0))]), some (.var [.arr 2 0 p.Nodes.length, .arr 3 0 p.Rules.length]), some (.nar 3 (oN false p.Nodes) []), some (.arr 3 (rR p.Rules))], 4, 0⟩) := by
  cases ht : p.Nodes with
  | nil => exact absurd ht hs
  | cons t R =>
    have h := copyProgram_run p hn hr hk R [t] 1 rfl ht
    have h0 := copyProgram_next0 p hn hr t R ht (hk t (by rw [ht]; simp))
    rw [← ht]
    rw [h0]
    exact h
theorem copyProgram_nil1 (p : GProgram) (hs : p.Nodes = []) (hr : p.Rules.length ≤ 1048576) : fnL Try.prog T1 L1 19 [.agg [.d (.sl 3 (rN p.Nodes)), .d (.sl 3 (rR p.Rules))]] [] = some (.one (.agg [.d (.v (.slice none 0 0)), .arr 0 0 p.Rules.length]), [some (.arr 3 (rR p.Rules))]) := by
  have Lp := copyProgram_end0 p hs
  have hroom : room = 70368744177664 := rfl
  have t1 := rR_tk p.Rules
  clear hs
  exact fn V19 Try.func19
theorem copyProgram_ok1 (p : GProgram) (hs : p.Nodes ≠ []) (hn : p.Nodes.length ≤ 1048576) (hr : p.Rules.length ≤ 1048576) (hk : ∀ x ∈ p.Nodes, x.Kids.length ≤ 1048576) : fnL Try.prog T1 L1 19 [.agg [.d (.sl 3 (rN p.Nodes)), .d (.sl 3 (rR p.Rules))]] [] = some (.one (.agg [.arr 0 0 p.Nodes.length, .arr 1 0 p.Rules.length]), [some (.nar 3 (oN false p.Nodes) []), some (.arr 3 (rR p.Rules))]) := by
  have Lp := copyProgram_all p hs hn hr hk
  have hroom : room = 70368744177664 := rfl
  have t1 := rR_tk p.Rules
  clear hs hk
  exact fn V19 Try.func19

theorem l18Copy_next1 (p : GProgram) (hn : p.Nodes.length ≤ 1048576) (hr : p.Rules.length ≤ 1048576) (x : GNode) (A R : List GNode) (i : Int) (hi : i = A.length) (hs : p.Nodes = A ++ x :: R) (hx : x.Kids.length ≤ 1048576) : loopC Try.prog T1 (fnL Try.prog T1 L1) 13 (cq Try.f13 [0, 0, 1, 0, 1, 1]) ⟨[J, .one (.c (.ptr 0 0 0)), .one (.c (.ptr 1 0 0)), .one (.c (.ptr 2 0 0)), .one (.c (.d (.v (.int .i64 (i))))), J, J, J, J, J, J, J, J, J, J, J, J, J, J, J, J, J, J, J, J, J, J, J, J, J, J, J, J, J, J], hpOf [some (.var [.d (.sl 3 (rN p.Nodes)), .d (.sl 3 (rR p.Rules))]), some (.var [.d (.v (.slice none 0 0)), .d (.v (.slice none 0 0))]), some (.var [.arr 3 0 A.length, .arr 4 0 p.Rules.length]), some (.nar 3 (oN false A) []), some (.arr 3 (rR p.Rules))], 5, 0⟩ = loopC Try.prog T1 (fnL Try.prog T1 L1) 13 (cq Try.f13 [0, 0, 1, 0, 1, 1]) ⟨[J, .one (.c (.ptr 0 0 0)), .one (.c (.ptr 1 0 0)), .one (.c (.ptr 2 0 0)), .one (.c (.d (.v (.int .i64 (i + 1))))), J, J, J, J, J, J, J, J, J, J, J, J, J, J, J, J, J, J, J, J, J, J, J, J, J, J, J, J, J, J], hpOf [some (.var [.d (.sl 3 (rN p.Nodes)), .d (.sl 3 (rR p.Rules))]), some (.var [.d (.v (.slice none 0 0)), .d (.v (.slice none 0 0))]), some (.var [.arr 3 0 (A ++ [x]).length, .arr 4 0 p.Rules.length]), some (.nar 3 (oN false (A ++ [x])) []), some (.arr 3 (rR p.Rules))], 5, 0⟩ := by
  have hg : (rN p.Nodes)[i.toNat]? = some x.enc := by rw [hs]; unfold rN; rw [List.map_append, List.map_cons]; exact mid_get _ _ _ _ (by simp; omega)
  have hl : i < (p.Nodes.length : Int) := by rw [hs]; simp; omega
  have hroom : room = 70368744177664 := rfl
  rw [encNd] at hg
  have ea : (A ++ [x]).length = A.length + 1 := by simp
  have hi0 : 0 ≤ i := by omega
  have hA : A.length ≤ 1048576 := by rw [hs] at hn; simp at hn; omega
  rw [ea, oNs]
  simp only [oNd, oK]
  have t1 := rI_tk x.Kids
  clear ea hs hi
  exact lp V13

theorem l18Copy_next0 (p : GProgram) (hn : p.Nodes.length ≤ 1048576) (hr : p.Rules.length ≤ 1048576) (x : GNode) (R : List GNode) (hs : p.Nodes = x :: R) (hx : x.Kids.length ≤ 1048576) : loopC Try.prog T1 (fnL Try.prog T1 L1) 13 (cq Try.f13 [0, 0, 1, 0, 1, 1]) ⟨[J, .one (.c (.ptr 0 0 0)), .one (.c (.ptr 1 0 0)), .one (.c (.ptr 2 0 0)), .one (.c (.d (.v (.int .i64 (0))))), J, J, J, J, J, J, J, J, J, J, J, J, J, J, J, J, J, J, J, J, J, J, J, J, J, J, J, J, J, J], hpOf [some (.var [.d (.sl 3 (rN p.Nodes)), .d (.sl 3 (rR p.Rules))]), some (.var [.d (.v (.slice none 0 0)), .d (.v (.slice none 0 0))]), some (.var [.d (.v (.slice none 0 0)), .arr 3 0 p.Rules.length]), some (.arr 3 (rR p.Rules))], 4, 0⟩ = loopC Try.prog T1 (fnL Try.prog T1 L1) 13 (cq Try.f13 [0, 0, 1, 0, 1, 1]) ⟨[J, .one (.c (.ptr 0 0 0)), .one (.c (.ptr 1 0 0)), .one (.c (.ptr 2 0 0)), .one (.c (.d (.v (.int .i64 (1))))), J, J, J, J, J, J, J, J, J, J, J, J, J, J, J, J, J, J, J, J, J, J, J, J, J, J, J, J, J, J], hpOf [some (.var [.d (.sl 3 (rN p.Nodes)), .d (.sl 3 (rR p.Rules))]), some (.var [.d (.v (.slice none 0 0)), .d (.v (.slice none 0 0))]), some (.var [.arr 3 0 [x].length, .arr 4 0 p.Rules.length]), some (.nar 3 (oN false [x]) []), some (.arr 3 (rR p.Rules))], 5, 0⟩ := by
  have hg : (rN p.Nodes)[(0 : Int).toNat]? = some x.enc := by rw [hs]; rfl
  have hl : (0 : Int) < (p.Nodes.length : Int) := by rw [hs, List.length_cons]; omega
  have hroom : room = 70368744177664 := rfl
  have hn0 : (0 : Int).toNat = 0 := rfl
  have hz0 : (0 : Int) + 1 = 1 := rfl
  rw [hn0, encNd] at hg
  have ea : [x].length = 1 := rfl
  have eo : oN false [x] = [oNd false x] := rfl
  rw [ea, eo]
  simp only [oNd, oK]
  have t1 := rI_tk x.Kids
  clear ea eo hs
  exact lp V13
theorem l18Copy_end1 (p : GProgram) (A : List GNode) (hn : p.Nodes.length ≤ 1048576) : loopC Try.prog T1 (fnL Try.prog T1 L1) 13 (cq Try.f13 [0, 0, 1, 0, 1, 1]) ⟨[J, .one (.c (.ptr 0 0 0)), .one (.c (.ptr 1 0 0)), .one (.c (.ptr 2 0 0)), .one (.c (.d (.v (.int .i64 ((p.Nodes.length : Int)))))), J, J, J, J, J, J, J, J, J, J, J, J, J, J, J, J, J, J, J, J, J, J, J, J, J, J, J, J, J, J], hpOf [some (.var [.d (.sl 3 (rN p.Nodes)), .d (.sl 3 (rR p.Rules))]), some (.var [.d (.v (.slice none 0 0)), .d (.v (.slice none 0 0))]), some (.var [.arr 3 0 A.length, .arr 4 0 p.Rules.length]), some (.nar 3 (oN false A) []), some (.arr 3 (rR p.Rules))], 5, 0⟩ = some (.exit 0, ⟨[J, J, .one (.c (.ptr 0 0 0)), .one (.c (.ptr 1 0 0)), J, J, J, J, J, J, J, J, J, J, J, J, J, J, J, J, J, J, J, J, J, J, J, J, J, J, J, J, J, J, J], hpOf [some (.var [.d (.v (.slice none 0 0)), .d (.v (.slice none 0 0))]), some (.var [.arr 2 0 A.length, .arr 3 0 p.Rules.length]), some (.nar 3 (oN false A) []), some (.arr 3 (rR p.Rules))], 4, 0⟩) := by
  exact lp V13
theorem l18Copy_end0 (p : GProgram) (hs : p.Nodes = []) : loopC Try.prog T1 (fnL Try.prog T1 L1) 13 (cq Try.f13 [0, 0, 1, 0, 1, 1]) ⟨[J, .one (.c (.ptr 0 0 0)), .one (.c (.ptr 1 0 0)), .one (.c (.ptr 2 0 0)), .one (.c (.d (.v (.int .i64 (0))))), J, J, J, J, J, J, J, J, J, J, J, J, J, J, J, J, J, J, J, J, J, J, J, J, J, J, J, J, J, J], hpOf [some (.var [.d (.sl 3 (rN p.Nodes)), .d (.sl 3 (rR p.Rules))]), some (.var [.d (.v (.slice none 0 0)), .d (.v (.slice none 0 0))]), some (.var [.d (.v (.slice none 0 0)), .arr 3 0 p.Rules.length]), some (.arr 3 (rR p.Rules))], 4, 0⟩ = some (.exit 0, ⟨[J, J, .one (.c (.ptr 0 0 0)), .one (.c (.ptr 1 0 0)), J, J, J, J, J, J, J, J, J, J, J, J, J, J, J, J, J, J, J, J, J, J, J, J, J, J, J, J, J, J, J], hpOf [some (.var [.d (.v (.slice none 0 0)), .d (.v (.slice none 0 0))]), some (.var [.d (.v (.slice none 0 0)), .arr 2 0 p.Rules.length]), some (.arr 3 (rR p.Rules))], 3, 0⟩) := by
  have hl : p.Nodes.length = 0 := by rw [hs]; rfl
  have hl2 : rN p.Nodes = [] := by rw [hs]; rfl
  simp only [hl, hl2]
  exact lp V13
theorem l18Copy_run (p : GProgram) (hn : p.Nodes.length ≤ 1048576) (hr : p.Rules.length ≤ 1048576) (hk : ∀ x ∈ p.Nodes, x.Kids.length ≤ 1048576) : ∀ (R A : List GNode) (i : Int), i = A.length → p.Nodes = A ++ R → loopC Try.prog T1 (fnL Try.prog T1 L1) 13 (cq Try.f13 [0, 0, 1, 0, 1, 1]) ⟨[J, .one (.c (.ptr 0 0 0)), .one (.c (.ptr 1 0 0)), .one (.c (.ptr 2 0 0)), .one (.c (.d (.v (.int .i64 (i))))), J, J, J, J, J, J, J, J, J, J, J, J, J, J, J, J, J, J, J, J, J, J, J, J, J, J, J, J, J, J], hpOf [some (.var [.d (.sl 3 (rN p.Nodes)), .d (.sl 3 (rR p.Rules))]), some (.var [.d (.v (.slice none 0 0)), .d (.v (.slice none 0 0))]), some (.var [.arr 3 0 A.length, .arr 4 0 p.Rules.length]), some (.nar 3 (oN false A) []), some (.arr 3 (rR p.Rules))], 5, 0⟩ = some (.exit 0, ⟨[J, J, .one (.c (.ptr 0 0 0)), .one (.c (.ptr 1 0 0)), J, J, J, J, J, J, J, J, J, J, J, J, J, J, J, J, J, J, J, J, J, J, J, J, J, J, J, J, J, J, J], hpOf [some (.var [.d (.v (.slice none 0 0)), .d (.v (.slice none 0 0))]), some (.var [.arr 2 0 p.Nodes.length, .arr 3 0 p.Rules.length]), some (.nar 3 (oN false p.Nodes) []), some (.arr 3 (rR p.Rules))], 4, 0⟩)
  | [], A, i, hi, hs => by
    rw [List.append_nil] at hs
    rw [hi]
    have h := l18Copy_end1 p p.Nodes hn
    rw [← hs]
    exact h
  | t :: R, A, i, hi, hs => by
    rw [l18Copy_next1 p hn hr t A R i hi hs (hk t (by rw [hs]; simp))]
    exact l18Copy_run p hn hr hk R (A ++ [t]) (i + 1) (by simp; omega) (by rw [hs]; simp)
theorem l18Copy_all (p : GProgram) (hs : p.Nodes ≠ []) (hn : p.Nodes.length ≤ 1048576) (hr : p.Rules.length ≤ 1048576) (hk : ∀ x ∈ p.Nodes, x.Kids.length ≤ 1048576) : loopC Try.prog T1 (fnL Try.prog T1 L1) 13 (cq Try.f13 [0, 0, 1, 0, 1, 1]) ⟨[J, .one (.c (.ptr 0 0 0)), .one (.c (.ptr 1 0 0)), .one (.c (.ptr 2 0 0)), .one (.c (.d (.v (.int .i64 (0))))), J, J, J, J, J, J, J, J, J, J, J, J, J, J, J, J, J, J, J, J, J, J, J, J, J, J, J, J, J, J], hpOf [some (.var [.d (.sl 3 (rN p.Nodes)), .d (.sl 3 (rR p.Rules))]), some (.var [.d (.v (.slice none 0 0)), .d (.v (.slice none 0 0))]), some (.var [.d (.v (.slice none 0 0)), .arr 3 0 p.Rules.length]), some (.arr 3 (rR p.Rules))], 4, 0⟩ = some (.exit 0, ⟨[J, J, .one (.c (.ptr 0 0 0)), .one (.c (.ptr 1 0 0)), J, J, J, J, J, J, J, J, J, J, J, J, J, J, J, J, J, J, J, J, J, J, J, J, J, J, J, J, J, J, J], hpOf [some (.var [.d (.v (.slice none 0 0)), .d (.v (.slice none 0 0))]), some (.var [.arr 2 0 p.Nodes.length, .arr 3 0 p.Rules.length]), some (.nar 3 (oN false p.Nodes) []), some (.arr 3 (rR p.Rules))], 4, 0⟩) := by
  cases ht : p.Nodes with
  | nil => exact absurd ht hs
  | cons t R =>
    have h := l18Copy_run p hn hr hk R [t] 1 rfl ht
    have h0 := l18Copy_next0 p hn hr t R ht (hk t (by rw [ht]; simp))
    rw [← ht]
    rw [h0]
    exact h
theorem l18Copy_nil1 (p : GProgram) (hs : p.Nodes = []) (hr : p.Rules.length ≤ 1048576) : fnL Try.prog T1 L1 13 [.agg [.d (.sl 3 (rN p.Nodes)), .d (.sl 3 (rR p.Rules))]] [] = some (.one (.agg [.d (.v (.slice none 0 0)), .arr 0 0 p.Rules.length]), [some (.arr 3 (rR p.Rules))]) := by
  have Lp := l18Copy_end0 p hs
  have hroom : room = 70368744177664 := rfl
  have t1 := rR_tk p.Rules
  clear hs
  exact fn V13 Try.func13
theorem l18Copy_ok1 (p : GProgram) (hs : p.Nodes ≠ []) (hn : p.Nodes.length ≤ 1048576) (hr : p.Rules.length ≤ 1048576) (hk : ∀ x ∈ p.Nodes, x.Kids.length ≤ 1048576) : fnL Try.prog T1 L1 13 [.agg [.d (.sl 3 (rN p.Nodes)), .d (.sl 3 (rR p.Rules))]] [] = some (.one (.agg [.arr 0 0 p.Nodes.length, .arr 1 0 p.Rules.length]), [some (.nar 3 (oN false p.Nodes) []), some (.arr 3 (rR p.Rules))]) := by
  have Lp := l18Copy_all p hs hn hr hk
  have hroom : room = 70368744177664 := rfl
  have t1 := rR_tk p.Rules
  clear hs hk
  exact fn V13 Try.func13
end
end Go.Vsi
