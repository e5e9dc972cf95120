/- What the functions of the program, of the reference and of the law do (a part of it). -/
import Derived.Test.YtgphmleklcicaaaQ7
namespace Go.Vsi
open Go.Proofs
noncomputable section
set_option maxRecDepth 100000
set_option maxHeartbeats 4000000
set_option linter.unusedSimpArgs false
set_option linter.unusedVariables false
attribute [local go_sem ↓] IX9
def tdP (p : GProgram) : List Int × List GNode := tdN (reachL p) p.Nodes 0 (List.replicate p.Nodes.length 0, [])
theorem KidsR_of (p : GProgram) (h : Fine p) (hk : ∀ x ∈ p.Nodes, x.Kids.length ≤ 1048576) : KidsR p := fun x hx => by
  obtain ⟨i, hi⟩ := List.mem_iff_getElem?.1 hx
  have h1 := (h.kids i x hi).2
  have h2 := (List.getElem?_eq_some_iff.1 hi).1
  exact ⟨hk x hx, fun k hkk => by have := h1 k hkk; omega⟩

theorem Tidied_00 (p : GProgram) (hf : Fine p) (hk : ∀ x ∈ p.Nodes, x.Kids.length ≤ 1048576) (hN : (tdP p).2 = []) (hU : p.Rules = []) (hok : fnL Try.prog T1 L1 18 [.agg [.d (.sl 3 (rN p.Nodes)), .d (.sl 3 (rR p.Rules))]] [] = some (.one (.c (.d (.v (.bool (true))))), [])) (hre : fnL Try.prog T1 L1 20 [.agg [.d (.sl 3 (rN p.Nodes)), .d (.sl 3 (rR p.Rules))], .c (.d (.v (.int .i64 (0))))] [] = some (.one (.c (.d (.sl 1 (rB (reachL p))))), [])) : fnL Try.prog T1 L1 7 [.agg [.d (.sl 3 (rN p.Nodes)), .d (.sl 3 (rR p.Rules))]] [] = some (.one (.agg [.d (.v (.slice none 0 0)), .d (.v (.slice none 0 0))]), []) := by
  have hn := hf.n
  have hr := hf.r
  have Lo := (And.left (out_run0 p (reachL p) hn (reachL_len p) (KidsR_of p hf hk) p.Nodes 0 (List.replicate p.Nodes.length 0) rfl (by simp) (by simp))) hN
  have hl := tdN_len (reachL p) p.Nodes 0 (List.replicate p.Nodes.length 0, [])
  have hrep : List.replicate p.Nodes.length [.v (.int .i64 (0))] = rI (List.replicate p.Nodes.length 0) := by simp [rI]
  rw [show tdN (reachL p) p.Nodes 0 (List.replicate p.Nodes.length 0, []) = tdP p from rfl] at Lo hl
  rw [show (((0 : Nat) : Int)) = 0 from rfl] at Lo
  generalize tdP p = s at Lo hl hN ⊢
  obtain ⟨P, N⟩ := s
  simp only [List.length_replicate] at hl hN Lo ⊢
  have Lr := ru_end00 p P N (p.Rules.map (rTd P)) 0 (by omega) (by rw [hU]; simp) (by omega)
  have hroom : room = 70368744177664 := rfl
  clear hf hk hN hU hl
  exact fn V7 Try.func7

theorem Tidied_01 (p : GProgram) (hf : Fine p) (hk : ∀ x ∈ p.Nodes, x.Kids.length ≤ 1048576) (hN : (tdP p).2 = []) (hU : p.Rules ≠ []) (hok : fnL Try.prog T1 L1 18 [.agg [.d (.sl 3 (rN p.Nodes)), .d (.sl 3 (rR p.Rules))]] [] = some (.one (.c (.d (.v (.bool (true))))), [])) (hre : fnL Try.prog T1 L1 20 [.agg [.d (.sl 3 (rN p.Nodes)), .d (.sl 3 (rR p.Rules))], .c (.d (.v (.int .i64 (0))))] [] = some (.one (.c (.d (.sl 1 (rB (reachL p))))), [])) : fnL Try.prog T1 L1 7 [.agg [.d (.sl 3 (rN p.Nodes)), .d (.sl 3 (rR p.Rules))]] [] = some (.one (.agg [.d (.v (.slice none 0 0)), .arr 0 0 (p.Rules.map (rTd (tdP p).1)).length]), [some (.arr 3 (rR (p.Rules.map (rTd (tdP p).1))))]) := by
  have hn := hf.n
  have hr := hf.r
  have Lo := (And.left (out_run0 p (reachL p) hn (reachL_len p) (KidsR_of p hf hk) p.Nodes 0 (List.replicate p.Nodes.length 0) rfl (by simp) (by simp))) hN
  have hl := tdN_len (reachL p) p.Nodes 0 (List.replicate p.Nodes.length 0, [])
  have hrep : List.replicate p.Nodes.length [.v (.int .i64 (0))] = rI (List.replicate p.Nodes.length 0) := by simp [rI]
  rw [show tdN (reachL p) p.Nodes 0 (List.replicate p.Nodes.length 0, []) = tdP p from rfl] at Lo hl
  rw [show (((0 : Nat) : Int)) = 0 from rfl] at Lo
  generalize tdP p = s at Lo hl hN ⊢
  obtain ⟨P, N⟩ := s
  simp only [List.length_replicate] at hl hN Lo ⊢
  have Lr := ru_all0 p P N hl hn (by omega) hf.rules hU
  have hroom : room = 70368744177664 := rfl
  clear hf hk hN hU hl
  exact fn V7 Try.func7

theorem Tidied_10 (p : GProgram) (hf : Fine p) (hk : ∀ x ∈ p.Nodes, x.Kids.length ≤ 1048576) (hN : (tdP p).2 ≠ []) (hU : p.Rules = []) (hok : fnL Try.prog T1 L1 18 [.agg [.d (.sl 3 (rN p.Nodes)), .d (.sl 3 (rR p.Rules))]] [] = some (.one (.c (.d (.v (.bool (true))))), [])) (hre : fnL Try.prog T1 L1 20 [.agg [.d (.sl 3 (rN p.Nodes)), .d (.sl 3 (rR p.Rules))], .c (.d (.v (.int .i64 (0))))] [] = some (.one (.c (.d (.sl 1 (rB (reachL p))))), [])) : fnL Try.prog T1 L1 7 [.agg [.d (.sl 3 (rN p.Nodes)), .d (.sl 3 (rR p.Rules))]] [] = some (.one (.agg [.arr 0 0 (tdP p).2.length, .d (.v (.slice none 0 0))]), [some (.nar 3 (oN true (tdP p).2) [])]) := by
  have hn := hf.n
  have hr := hf.r
  have Lo := (And.right (out_run0 p (reachL p) hn (reachL_len p) (KidsR_of p hf hk) p.Nodes 0 (List.replicate p.Nodes.length 0) rfl (by simp) (by simp))) hN
  have hl := tdN_len (reachL p) p.Nodes 0 (List.replicate p.Nodes.length 0, [])
  have hrep : List.replicate p.Nodes.length [.v (.int .i64 (0))] = rI (List.replicate p.Nodes.length 0) := by simp [rI]
  rw [show tdN (reachL p) p.Nodes 0 (List.replicate p.Nodes.length 0, []) = tdP p from rfl] at Lo hl
  rw [show (((0 : Nat) : Int)) = 0 from rfl] at Lo
  generalize tdP p = s at Lo hl hN ⊢
  obtain ⟨P, N⟩ := s
  simp only [List.length_replicate] at hl hN Lo ⊢
  have Lr := ru_end10 p P N (p.Rules.map (rTd P)) 0 (by omega) (by rw [hU]; simp) (by omega)
  have hroom : room = 70368744177664 := rfl
  clear hf hk hN hU hl
  exact fn V7 Try.func7

theorem Tidied_11 (p : GProgram) (hf : Fine p) (hk : ∀ x ∈ p.Nodes, x.Kids.length ≤ 1048576) (hN : (tdP p).2 ≠ []) (hU : p.Rules ≠ []) (hok : fnL Try.prog T1 L1 18 [.agg [.d (.sl 3 (rN p.Nodes)), .d (.sl 3 (rR p.Rules))]] [] = some (.one (.c (.d (.v (.bool (true))))), [])) (hre : fnL Try.prog T1 L1 20 [.agg [.d (.sl 3 (rN p.Nodes)), .d (.sl 3 (rR p.Rules))], .c (.d (.v (.int .i64 (0))))] [] = some (.one (.c (.d (.sl 1 (rB (reachL p))))), [])) : fnL Try.prog T1 L1 7 [.agg [.d (.sl 3 (rN p.Nodes)), .d (.sl 3 (rR p.Rules))]] [] = some (.one (.agg [.arr 0 0 (tdP p).2.length, .arr 1 0 (p.Rules.map (rTd (tdP p).1)).length]), [some (.nar 3 (oN true (tdP p).2) []), some (.arr 3 (rR (p.Rules.map (rTd (tdP p).1))))]) := by
  have hn := hf.n
  have hr := hf.r
  have Lo := (And.right (out_run0 p (reachL p) hn (reachL_len p) (KidsR_of p hf hk) p.Nodes 0 (List.replicate p.Nodes.length 0) rfl (by simp) (by simp))) hN
  have hl := tdN_len (reachL p) p.Nodes 0 (List.replicate p.Nodes.length 0, [])
  have hrep : List.replicate p.Nodes.length [.v (.int .i64 (0))] = rI (List.replicate p.Nodes.length 0) := by simp [rI]
  rw [show tdN (reachL p) p.Nodes 0 (List.replicate p.Nodes.length 0, []) = tdP p from rfl] at Lo hl
  rw [show (((0 : Nat) : Int)) = 0 from rfl] at Lo
  generalize tdP p = s at Lo hl hN ⊢
  obtain ⟨P, N⟩ := s
  simp only [List.length_replicate] at hl hN Lo ⊢
  have Lr := ru_all1 p P N hl hn (by omega) hf.rules hU
  have hroom : room = 70368744177664 := rfl
  clear hf hk hN hU hl
  exact fn V7 Try.func7

theorem Tidied_bad0 (p : GProgram) (hs : p.Nodes = []) (hn : p.Nodes.length ≤ 1048576) (hr : p.Rules.length ≤ 1048576) (hk : ∀ x ∈ p.Nodes, x.Kids.length ≤ 1048576) (hok : fnL Try.prog T1 L1 18 [.agg [.d (.sl 3 (rN p.Nodes)), .d (.sl 3 (rR p.Rules))]] [] = some (.one (.c (.d (.v (.bool (false))))), [])) : fnL Try.prog T1 L1 7 [.agg [.d (.sl 3 (rN p.Nodes)), .d (.sl 3 (rR p.Rules))]] [] = some (.one (.agg [.d (.v (.slice none 0 0)), .arr 0 0 p.Rules.length]), [some (.arr 3 (rR p.Rules))]) := by
  have h1 := copyProgram_nil1 p hs hr
  clear hs hk
  exact fn V7 Try.func7

theorem Tidied_bad1 (p : GProgram) (hs : p.Nodes ≠ []) (hn : p.Nodes.length ≤ 1048576) (hr : p.Rules.length ≤ 1048576) (hk : ∀ x ∈ p.Nodes, x.Kids.length ≤ 1048576) (hok : fnL Try.prog T1 L1 18 [.agg [.d (.sl 3 (rN p.Nodes)), .d (.sl 3 (rR p.Rules))]] [] = some (.one (.c (.d (.v (.bool (false))))), [])) : fnL Try.prog T1 L1 7 [.agg [.d (.sl 3 (rN p.Nodes)), .d (.sl 3 (rR p.Rules))]] [] = some (.one (.agg [.arr 0 0 p.Nodes.length, .arr 1 0 p.Rules.length]), [some (.nar 3 (oN false p.Nodes) []), some (.arr 3 (rR p.Rules))]) := by
  have h1 := copyProgram_ok1 p hs hn hr hk
  clear hs hk
  exact fn V7 Try.func7
end
end Go.Vsi
