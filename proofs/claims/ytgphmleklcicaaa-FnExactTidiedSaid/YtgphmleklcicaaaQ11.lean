/- What the functions of the program, of the reference and of the law do (a part of it). -/
import Derived.Test.YtgphmleklcicaaaQ10
namespace Go.Vsi
open Go.Proofs
noncomputable section
set_option maxRecDepth 100000
set_option maxHeartbeats 4000000
set_option linter.unusedSimpArgs false
set_option linter.unusedVariables false
attribute [local go_sem ↓] IX9
theorem flatN (xs : List GNode) : (oN false xs).map (List.map O.flat) = rN xs := by rw [oN_flat, dN_false]

theorem sTidied_00 (p : GProgram) (hf : Fine p) (hk : ∀ x ∈ p.Nodes, x.Kids.length ≤ 1048576) (hz : p.Nodes ≠ []) (hN : (tdP p).2 = []) (hU : p.Rules = []) (hok : fnL Try.prog T1 L1 14 [.agg [.d (.sl 3 (rN p.Nodes)), .d (.sl 3 (rR p.Rules))]] [] = some (.one (.c (.d (.v (.bool (true))))), [])) (hre : fnL Try.prog T1 L1 15 [.agg [.d (.sl 3 (rN p.Nodes)), .d (.sl 3 (rR p.Rules))]] [] = some (.one (.c (.d (.sl 1 (rB (reachL p))))), [])) : fnL Try.prog T1 L1 5 [.agg [.arr 0 0 p.Nodes.length, .arr 1 0 p.Rules.length]] [some (.nar 3 (oN false p.Nodes) []), some (.arr 3 (rR p.Rules))] = some (.one (.agg [.d (.v (.slice none 0 0)), .d (.v (.slice none 0 0))]), [none, none]) := by
  have hn := hf.n
  have hr := hf.r
  have hcp := l18Copy_ok1 p hz (by omega) (by omega) hk
  have Lo := (And.left (s_run0 p (reachL p) hn (reachL_len p) (KidsR_of p hf hk) hf.kids p.Nodes 0 (List.replicate p.Nodes.length 0) (oN false p.Nodes) rfl (by simp) (by simp) (fun j x _ hj => by unfold oN; rw [List.getElem?_map, hj]; rfl))) hN
  have hl := tdN_len (reachL p) p.Nodes 0 (List.replicate p.Nodes.length 0, [])
  have hrep : List.replicate p.Nodes.length [.v (.int .i64 (0))] = rI (List.replicate p.Nodes.length 0) := by simp [rI]
  rw [show tdN (reachL p) p.Nodes 0 (List.replicate p.Nodes.length 0, []) = tdP p from rfl] at Lo hl
  rw [show (((0 : Nat) : Int)) = 0 from rfl] at Lo
  generalize tdP p = s at Lo hl hN ⊢
  obtain ⟨P, N⟩ := s
  simp only [List.length_replicate] at hl hN Lo ⊢
  have Lr := sr_end00 p P N (p.Rules.map (rTd P)) 0 (by omega) (by rw [hU]; simp) (by omega)
  have hroom : room = 70368744177664 := rfl
  have t1 := oN_tk false p.Nodes
  have t2 := flatN p.Nodes
  have t3 := oN_tk false N
  have t4 := flatN N
  have t5 := rR_tk p.Rules
  have t6 := rR_tk (p.Rules.map (rTd P))
  rw [List.length_map] at t6
  clear hf hk hN hU hl hz
  exact fnh V5 Try.func5

theorem sTidied_01 (p : GProgram) (hf : Fine p) (hk : ∀ x ∈ p.Nodes, x.Kids.length ≤ 1048576) (hz : p.Nodes ≠ []) (hN : (tdP p).2 = []) (hU : p.Rules ≠ []) (hok : fnL Try.prog T1 L1 14 [.agg [.d (.sl 3 (rN p.Nodes)), .d (.sl 3 (rR p.Rules))]] [] = some (.one (.c (.d (.v (.bool (true))))), [])) (hre : fnL Try.prog T1 L1 15 [.agg [.d (.sl 3 (rN p.Nodes)), .d (.sl 3 (rR p.Rules))]] [] = some (.one (.c (.d (.sl 1 (rB (reachL p))))), [])) : fnL Try.prog T1 L1 5 [.agg [.arr 0 0 p.Nodes.length, .arr 1 0 p.Rules.length]] [some (.nar 3 (oN false p.Nodes) []), some (.arr 3 (rR p.Rules))] = some (.one (.agg [.d (.v (.slice none 0 0)), .d (.sl 3 (rR (p.Rules.map (rTd (tdP p).1))))]), [none, none]) := by
  have hn := hf.n
  have hr := hf.r
  have hcp := l18Copy_ok1 p hz (by omega) (by omega) hk
  have Lo := (And.left (s_run0 p (reachL p) hn (reachL_len p) (KidsR_of p hf hk) hf.kids p.Nodes 0 (List.replicate p.Nodes.length 0) (oN false p.Nodes) rfl (by simp) (by simp) (fun j x _ hj => by unfold oN; rw [List.getElem?_map, hj]; rfl))) hN
  have hl := tdN_len (reachL p) p.Nodes 0 (List.replicate p.Nodes.length 0, [])
  have hrep : List.replicate p.Nodes.length [.v (.int .i64 (0))] = rI (List.replicate p.Nodes.length 0) := by simp [rI]
  rw [show tdN (reachL p) p.Nodes 0 (List.replicate p.Nodes.length 0, []) = tdP p from rfl] at Lo hl
  rw [show (((0 : Nat) : Int)) = 0 from rfl] at Lo
  generalize tdP p = s at Lo hl hN ⊢
  obtain ⟨P, N⟩ := s
  simp only [List.length_replicate] at hl hN Lo ⊢
  have Lr := sr_all0 p P N hl hn (by omega) hf.rules hU
  have hroom : room = 70368744177664 := rfl
  have t1 := oN_tk false p.Nodes
  have t2 := flatN p.Nodes
  have t3 := oN_tk false N
  have t4 := flatN N
  have t5 := rR_tk p.Rules
  have t6 := rR_tk (p.Rules.map (rTd P))
  rw [List.length_map] at t6
  clear hf hk hN hU hl hz
  exact fnh V5 Try.func5

theorem sTidied_10 (p : GProgram) (hf : Fine p) (hk : ∀ x ∈ p.Nodes, x.Kids.length ≤ 1048576) (hz : p.Nodes ≠ []) (hN : (tdP p).2 ≠ []) (hU : p.Rules = []) (hok : fnL Try.prog T1 L1 14 [.agg [.d (.sl 3 (rN p.Nodes)), .d (.sl 3 (rR p.Rules))]] [] = some (.one (.c (.d (.v (.bool (true))))), [])) (hre : fnL Try.prog T1 L1 15 [.agg [.d (.sl 3 (rN p.Nodes)), .d (.sl 3 (rR p.Rules))]] [] = some (.one (.c (.d (.sl 1 (rB (reachL p))))), [])) : fnL Try.prog T1 L1 5 [.agg [.arr 0 0 p.Nodes.length, .arr 1 0 p.Rules.length]] [some (.nar 3 (oN false p.Nodes) []), some (.arr 3 (rR p.Rules))] = some (.one (.agg [.d (.sl 3 (rN (tdP p).2)), .d (.v (.slice none 0 0))]), [none, none]) := by
  have hn := hf.n
  have hr := hf.r
  have hcp := l18Copy_ok1 p hz (by omega) (by omega) hk
  have Lo := (And.right (s_run0 p (reachL p) hn (reachL_len p) (KidsR_of p hf hk) hf.kids p.Nodes 0 (List.replicate p.Nodes.length 0) (oN false p.Nodes) rfl (by simp) (by simp) (fun j x _ hj => by unfold oN; rw [List.getElem?_map, hj]; rfl))) hN
  have hl := tdN_len (reachL p) p.Nodes 0 (List.replicate p.Nodes.length 0, [])
  have hrep : List.replicate p.Nodes.length [.v (.int .i64 (0))] = rI (List.replicate p.Nodes.length 0) := by simp [rI]
  rw [show tdN (reachL p) p.Nodes 0 (List.replicate p.Nodes.length 0, []) = tdP p from rfl] at Lo hl
  rw [show (((0 : Nat) : Int)) = 0 from rfl] at Lo
  generalize tdP p = s at Lo hl hN ⊢
  obtain ⟨P, N⟩ := s
  simp only [List.length_replicate] at hl hN Lo ⊢
  have Lr := sr_end10 p P N (p.Rules.map (rTd P)) 0 (by omega) (by rw [hU]; simp) (by omega)
  have hroom : room = 70368744177664 := rfl
  have t1 := oN_tk false p.Nodes
  have t2 := flatN p.Nodes
  have t3 := oN_tk false N
  have t4 := flatN N
  have t5 := rR_tk p.Rules
  have t6 := rR_tk (p.Rules.map (rTd P))
  rw [List.length_map] at t6
  clear hf hk hN hU hl hz
  exact fnh V5 Try.func5

theorem sTidied_11 (p : GProgram) (hf : Fine p) (hk : ∀ x ∈ p.Nodes, x.Kids.length ≤ 1048576) (hz : p.Nodes ≠ []) (hN : (tdP p).2 ≠ []) (hU : p.Rules ≠ []) (hok : fnL Try.prog T1 L1 14 [.agg [.d (.sl 3 (rN p.Nodes)), .d (.sl 3 (rR p.Rules))]] [] = some (.one (.c (.d (.v (.bool (true))))), [])) (hre : fnL Try.prog T1 L1 15 [.agg [.d (.sl 3 (rN p.Nodes)), .d (.sl 3 (rR p.Rules))]] [] = some (.one (.c (.d (.sl 1 (rB (reachL p))))), [])) : fnL Try.prog T1 L1 5 [.agg [.arr 0 0 p.Nodes.length, .arr 1 0 p.Rules.length]] [some (.nar 3 (oN false p.Nodes) []), some (.arr 3 (rR p.Rules))] = some (.one (.agg [.d (.sl 3 (rN (tdP p).2)), .d (.sl 3 (rR (p.Rules.map (rTd (tdP p).1))))]), [none, none]) := by
  have hn := hf.n
  have hr := hf.r
  have hcp := l18Copy_ok1 p hz (by omega) (by omega) hk
  have Lo := (And.right (s_run0 p (reachL p) hn (reachL_len p) (KidsR_of p hf hk) hf.kids p.Nodes 0 (List.replicate p.Nodes.length 0) (oN false p.Nodes) rfl (by simp) (by simp) (fun j x _ hj => by unfold oN; rw [List.getElem?_map, hj]; rfl))) hN
  have hl := tdN_len (reachL p) p.Nodes 0 (List.replicate p.Nodes.length 0, [])
  have hrep : List.replicate p.Nodes.length [.v (.int .i64 (0))] = rI (List.replicate p.Nodes.length 0) := by simp [rI]
  rw [show tdN (reachL p) p.Nodes 0 (List.replicate p.Nodes.length 0, []) = tdP p from rfl] at Lo hl
  rw [show (((0 : Nat) : Int)) = 0 from rfl] at Lo
  generalize tdP p = s at Lo hl hN ⊢
  obtain ⟨P, N⟩ := s
  simp only [List.length_replicate] at hl hN Lo ⊢
  have Lr := sr_all1 p P N hl hn (by omega) hf.rules hU
  have hroom : room = 70368744177664 := rfl
  have t1 := oN_tk false p.Nodes
  have t2 := flatN p.Nodes
  have t3 := oN_tk false N
  have t4 := flatN N
  have t5 := rR_tk p.Rules
  have t6 := rR_tk (p.Rules.map (rTd P))
  rw [List.length_map] at t6
  clear hf hk hN hU hl hz
  exact fnh V5 Try.func5

theorem sTidied_bad0 (p : GProgram) (hs : p.Nodes = []) (hn : p.Nodes.length ≤ 1048576) (hr : p.Rules.length ≤ 1048576) (hk : ∀ x ∈ p.Nodes, x.Kids.length ≤ 1048576) (hok : fnL Try.prog T1 L1 14 [.agg [.d (.sl 3 (rN p.Nodes)), .d (.sl 3 (rR p.Rules))]] [] = some (.one (.c (.d (.v (.bool (false))))), [])) : fnL Try.prog T1 L1 5 [.agg [.arr 0 0 p.Nodes.length, .arr 1 0 p.Rules.length]] [some (.nar 3 (oN false p.Nodes) []), some (.arr 3 (rR p.Rules))] = some (.one (.agg [.d (.v (.slice none 0 0)), .d (.sl 3 (rR p.Rules))]), [none, none]) := by
  have h1 := l18Copy_nil1 p hs hr
  have t1 := oN_tk false p.Nodes
  have t2 := flatN p.Nodes
  have t5 := rR_tk p.Rules
  clear hs hk
  exact fnh V5 Try.func5

theorem sTidied_bad1 (p : GProgram) (hs : p.Nodes ≠ []) (hn : p.Nodes.length ≤ 1048576) (hr : p.Rules.length ≤ 1048576) (hk : ∀ x ∈ p.Nodes, x.Kids.length ≤ 1048576) (hok : fnL Try.prog T1 L1 14 [.agg [.d (.sl 3 (rN p.Nodes)), .d (.sl 3 (rR p.Rules))]] [] = some (.one (.c (.d (.v (.bool (false))))), [])) : fnL Try.prog T1 L1 5 [.agg [.arr 0 0 p.Nodes.length, .arr 1 0 p.Rules.length]] [some (.nar 3 (oN false p.Nodes) []), some (.arr 3 (rR p.Rules))] = some (.one (.agg [.d (.sl 3 (rN p.Nodes)), .d (.sl 3 (rR p.Rules))]), [none, none]) := by
  have h1 := l18Copy_ok1 p hs hn hr hk
  have t1 := oN_tk false p.Nodes
  have t2 := flatN p.Nodes
  have t5 := rR_tk p.Rules
  clear hs hk
  exact fnh V5 Try.func5

theorem sz_end (p : GProgram) (hs : p.Nodes = []) : loopC Try.prog T1 (fnL Try.prog T1 L1) 5 (cq Try.f5 [0, 0, 1, 0, 1, 1, 1, 1, 1, 1]) ⟨[J, .one (.c (.ptr 2 0 0)), .one (.c (.ptr 3 0 0)), .one (.c (.ptr 4 0 0)), .one (.c (.d (.sl 1 ([])))), .one (.c (.arr 6 0 p.Nodes.length)), .one (.c (.ptr 7 0 0)), .one (.c (.d (.v (.int .i64 (0))))), J, J, J, J, J, J, J, J, J, J, J, J, J, J, J, J, J, J, J, J, J, J, J, J, J, J, J, J, J, J, J, J, J, J, J, J, J, J, J, J, J, J, J, J, J, J, J, J, J, J, J, J, J, J, J, J, J, J, J, J, J, J, J, J, J, J, J, J, J, J, J, J, J, J, J, J, J, J, J, J, J, J, J, J, J, J, J, J, J, J, J, J, J, J, J, J, J, J, J], hpOf [none, none, some (.var [.d (.sl 3 (rN p.Nodes)), .d (.sl 3 (rR p.Rules))]), some (.var [.d (.v (.slice none 0 0)), .d (.v (.slice none 0 0))]), some (.var [.d (.v (.slice none 0 0)), .arr 5 0 p.Rules.length]), some (.arr 3 (rR p.Rules)), some (.arr 1 []), some (.var [.d (.v (.slice none 0 0)), .d (.v (.slice none 0 0))])], 8, 2⟩ = some (.exit 0, ⟨[J, .one (.c (.ptr 2 0 0)), .one (.c (.ptr 3 0 0)), J, J, .one (.c (.arr 4 0 p.Nodes.length)), .one (.c (.ptr 5 0 0)), J, J, J, J, J, J, J, J, J, J, J, J, J, J, J, J, J, J, J, J, J, J, J, J, J, J, J, J, J, J, J, J, J, J, J, J, J, J, J, J, J, J, J, J, J, J, J, J, J, J, J, J, J, J, J, J, J, J, J, J, J, J, J, J, J, J, J, J, J, J, J, J, J, J, J, J, J, J, J, J, J, J, J, J, J, J, J, J, J, J, J, J, J, J, J, J, J, J, J, J], hpOf [none, none, some (.var [.d (.sl 3 (rN p.Nodes)), .d (.sl 3 (rR p.Rules))]), some (.var [.d (.v (.slice none 0 0)), .d (.v (.slice none 0 0))]), some (.arr 1 []), some (.var [.d (.v (.slice none 0 0)), .d (.v (.slice none 0 0))])], 6, 2⟩) := by
  have hl : p.Nodes.length = 0 := by rw [hs]; rfl
  exact lph V5
theorem sTidied_zero (p : GProgram) (hs : p.Nodes = []) (hU : p.Rules = []) (hok : fnL Try.prog T1 L1 14 [.agg [.d (.sl 3 (rN p.Nodes)), .d (.sl 3 (rR p.Rules))]] [] = some (.one (.c (.d (.v (.bool (true))))), [])) (hre : fnL Try.prog T1 L1 15 [.agg [.d (.sl 3 (rN p.Nodes)), .d (.sl 3 (rR p.Rules))]] [] = some (.one (.c (.d (.sl 1 (rB (reachL p))))), [])) : fnL Try.prog T1 L1 5 [.agg [.arr 0 0 p.Nodes.length, .arr 1 0 p.Rules.length]] [some (.nar 3 (oN false p.Nodes) []), some (.arr 3 (rR p.Rules))] = some (.one (.agg [.d (.v (.slice none 0 0)), .d (.v (.slice none 0 0))]), [none, none]) := by
  obtain ⟨Ns, Rs⟩ := p
  simp only at hs hU
  subst hs hU
  have hcp := l18Copy_nil1 (⟨[], []⟩ : GProgram) rfl (by simp)
  have Lo := sz_end (⟨[], []⟩ : GProgram) rfl
  have Lr := sr_end00 (⟨[], []⟩ : GProgram) [] [] [] 0 (by omega) (by simp) (by simp)
  have er : rB (reachL (⟨[], []⟩ : GProgram)) = [] := rfl
  rw [er] at hre
  have hroom : room = 70368744177664 := rfl
  simp only [rN_nil, rR_nil, rI_nil, oN_nil, List.length_nil] at hcp Lo Lr hok hre ⊢
  clear er
  exact fnh V5 Try.func5
end
end Go.Vsi
