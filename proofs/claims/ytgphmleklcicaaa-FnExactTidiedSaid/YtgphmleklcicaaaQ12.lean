/- What the functions of the program, of the reference and of the law do (a part of it). -/
import Derived.Test.YtgphmleklcicaaaQ11
import Derived.Test.YtgphmleklcicaaaQ2
import Derived.Test.YtgphmleklcicaaaQ4
import Derived.Test.YtgphmleklcicaaaP4
namespace Go.Vsi
open Go.Proofs
noncomputable section
set_option maxRecDepth 100000
set_option maxHeartbeats 4000000
set_option linter.unusedSimpArgs false
set_option linter.unusedVariables false
attribute [local go_sem ↓] IX9
theorem szNs_kids : ∀ (xs : List GNode) (l : Int), 0 ≤ l → 0 ≤ szNs xs l → ∀ x ∈ xs, (x.Kids.length : Int) ≤ l
  | [], l, h, h1, x, hx => by cases hx
  | y :: ys, l, h, h1, x, hx => by
    have hy := szN_le y l h
    unfold szNs at h1
    split at h1
    · omega
    · rename_i hn
      rcases List.mem_cons.1 hx with rfl | hx
      · unfold szN at hn
        split at hn
        · omega
        · unfold szI at hn
          split at hn <;> omega
      · have := szNs_kids ys (szN y l) (by omega) h1 x hx
        omega
theorem szP_small (p : GProgram) (l : Int) (hl : 0 ≤ l) (h : ¬ szP p l < 0) : (p.Nodes.length : Int) ≤ l ∧ (p.Rules.length : Int) ≤ l ∧ ∀ x ∈ p.Nodes, (x.Kids.length : Int) ≤ l := by
  unfold szP at h
  by_cases h1 : l - (p.Nodes.length : Int) < 0
  · rw [if_pos h1] at h
    simp at h
  · rw [if_neg h1] at h
    have h2 := szNs_le p.Nodes (l - p.Nodes.length) (by omega)
    by_cases h3 : szNs p.Nodes (l - p.Nodes.length) < 0
    · rw [if_pos h3] at h
      omega
    · rw [if_neg h3] at h
      have h4 := szNs_kids p.Nodes (l - p.Nodes.length) (by omega) (by omega)
      refine ⟨by omega, ?_, fun x hx => ?_⟩
      · split at h <;> omega
      · have := h4 x hx
        omega

theorem kNs_sz : ∀ (xs : List GNode) (l k : Int), 0 ≤ l → 0 ≤ szNs xs l → kNs xs k ≤ k + 2 * (xs.length : Int) + (l - szNs xs l)
  | [], l, k, _, h => by simp [kNs, szNs]
  | x :: xs, l, k, h0, h => by
    unfold szNs at h ⊢
    split at h
    · omega
    · rename_i hn
      rw [if_neg hn]
      have ih := kNs_sz xs (szN x l) (kNd x k) (by omega) h
      have hx : szN x l ≤ l - x.Kids.length := by
        unfold szN szI at hn ⊢
        split at hn
        · omega
        · rename_i h2
          rw [if_neg h2]
          split at hn
          · omega
          · rename_i h3
            rw [if_neg h3]
            omega
      rw [kNs, List.length_cons]
      unfold kNd at ih ⊢
      omega
theorem kNs_le : ∀ (xs : List GNode) (k : Int), (∀ x ∈ xs, x.Kids.length ≤ 1048576) → kNs xs k ≤ k + 1048578 * (xs.length : Int)
  | [], k, _ => by simp [kNs]
  | x :: xs, k, h => by
    have h1 := h x (by simp)
    have ih := kNs_le xs (kNd x k) (fun y hy => h y (by simp [hy]))
    rw [kNs, List.length_cons]
    unfold kNd at ih ⊢
    omega

theorem law_00 (p : GProgram) (nl : Bool) (N : List GNode) (R : List GRule) (hN : N = []) (hR : R = []) (hz : fnL Try.prog T1 L1 4 [.agg [.d (.sl 3 (rN p.Nodes)), .d (.sl 3 (rR p.Rules))], .c (.d (.v (.int .i64 (1048576))))] [] = some (.one (.c (.d (.v (.int .i64 (szP p 1048576))))), [])) (hz0 : ¬ szP p 1048576 < 0)
    (n1 : p.Nodes.length ≤ 1048576) (n2 : p.Rules.length ≤ 1048576) (n3 : ∀ x ∈ p.Nodes, x.Kids.length ≤ 1048576) (n4 : kNs p.Nodes 1 + 3 * (p.Rules.length : Int) ≤ 1000000000) (g1 : N.length ≤ 1048576) (g2 : R.length ≤ 1048576) (g3 : ∀ x ∈ N, x.Kids.length ≤ 1048576) (g4 : kNs N 1 + 3 * (R.length : Int) ≤ 1000000000)
    (h2 : fnL Try.prog T1 L1 5 [.agg [.arr 0 0 p.Nodes.length, .arr 1 0 p.Rules.length]] [some (.nar 3 (oN false p.Nodes) []), some (.arr 3 (rR p.Rules))] = some (.one (.agg [.d (.v (.slice none 0 0)), .d (.v (.slice none 0 0))]), [none, none])) (h3 : fnL Try.prog T1 L1 7 [.agg [.d (.sl 3 (rN p.Nodes)), .d (.sl 3 (rR p.Rules))]] [] = some (.one (.agg [.d (.v (.slice none 0 0)), .d (.v (.slice none 0 0))]), [])) :
    fnL Try.prog T1 L1 3 [.agg [.d (.sl 3 (rN p.Nodes)), .d (.sl 3 (rR p.Rules))]] [] = some (.one (.c (.d (.v (.bool (true))))), []) := by
  have ht := toProgram_ok1 p n1 n2 n3
  have e00 := eqNodeS_ok1 false p.Nodes n1 n3
  rw [dN_false] at e00
  have e0 := eqProgram_ok1 _ _ _ _ e00 (eqRuleS_ok1 p.Rules n2)
  have e1 := eqProgram_ok1 _ _ _ _ eqNodeS_nil1 eqRuleS_nil1
  have m0 := markProgram_11 false p.Nodes p.Rules n1 n2 n3 n4
  have m1 := markProgram_00 nl N R hN hR g1 g2 g3 g4
  have hg := kNs_ge N 1
  have hq : 0 ≤ kNs N 1 + 3 * (R.length : Int) := by omega
  have hq0 : 0 ≤ kNs p.Nodes 1 + 3 * (p.Rules.length : Int) := by have := kNs_ge p.Nodes 1; omega
  have d1 := heldProgram_ok1 _ _ (kNs N 1) (kNs N 1 + 3 * (R.length : Int)) (by omega) hq (by rw [hN]; exact heldNodeS_nil1 1) (by rw [hR, List.length_nil, Int.natCast_zero, Int.mul_zero, Int.add_zero]; exact heldRuleS_nil1 _)
  have s1 := oN_tk false p.Nodes
  have s2 := flatN p.Nodes
  have s3 := rR_tk p.Rules
  have s4 := oN_tk nl N
  have s5 := oN_flat nl N
  have s6 := rR_tk R
  have z1 : (oN nl (mNs N 1)).take N.length = oN nl (mNs N 1) := List.take_of_length_le (by rw [oN_len, mNs_len]; omega)
  have z2 := oN_flat nl (mNs N 1)
  have z3 : (rR (mR R.length (kNs N 1))).take R.length = rR (mR R.length (kNs N 1)) := List.take_of_length_le (by simp [rR, mR_len])
  clear n3 g3 n4 g4 e00
  clear hN
  clear hR
  generalize kNs N 1 + 3 * (R.length : Int) = kk at m1 d1 hq
  generalize kNs p.Nodes 1 + 3 * (p.Rules.length : Int) = k0 at m0 hq0
  exact fn V3 Try.func3

theorem law_01 (p : GProgram) (nl : Bool) (N : List GNode) (R : List GRule) (hN : N = []) (hz : fnL Try.prog T1 L1 4 [.agg [.d (.sl 3 (rN p.Nodes)), .d (.sl 3 (rR p.Rules))], .c (.d (.v (.int .i64 (1048576))))] [] = some (.one (.c (.d (.v (.int .i64 (szP p 1048576))))), [])) (hz0 : ¬ szP p 1048576 < 0)
    (n1 : p.Nodes.length ≤ 1048576) (n2 : p.Rules.length ≤ 1048576) (n3 : ∀ x ∈ p.Nodes, x.Kids.length ≤ 1048576) (n4 : kNs p.Nodes 1 + 3 * (p.Rules.length : Int) ≤ 1000000000) (g1 : N.length ≤ 1048576) (g2 : R.length ≤ 1048576) (g3 : ∀ x ∈ N, x.Kids.length ≤ 1048576) (g4 : kNs N 1 + 3 * (R.length : Int) ≤ 1000000000)
    (h2 : fnL Try.prog T1 L1 5 [.agg [.arr 0 0 p.Nodes.length, .arr 1 0 p.Rules.length]] [some (.nar 3 (oN false p.Nodes) []), some (.arr 3 (rR p.Rules))] = some (.one (.agg [.d (.v (.slice none 0 0)), .d (.sl 3 (rR R))]), [none, none])) (h3 : fnL Try.prog T1 L1 7 [.agg [.d (.sl 3 (rN p.Nodes)), .d (.sl 3 (rR p.Rules))]] [] = some (.one (.agg [.d (.v (.slice none 0 0)), .arr 0 0 R.length]), [some (.arr 3 (rR R))])) :
    fnL Try.prog T1 L1 3 [.agg [.d (.sl 3 (rN p.Nodes)), .d (.sl 3 (rR p.Rules))]] [] = some (.one (.c (.d (.v (.bool (true))))), []) := by
  have ht := toProgram_ok1 p n1 n2 n3
  have e00 := eqNodeS_ok1 false p.Nodes n1 n3
  rw [dN_false] at e00
  have e0 := eqProgram_ok1 _ _ _ _ e00 (eqRuleS_ok1 p.Rules n2)
  have e1 := eqProgram_ok1 _ _ _ _ eqNodeS_nil1 (eqRuleS_ok1 R g2)
  have m0 := markProgram_11 false p.Nodes p.Rules n1 n2 n3 n4
  have m1 := markProgram_01 nl N R hN g1 g2 g3 g4
  have hg := kNs_ge N 1
  have hq : 0 ≤ kNs N 1 + 3 * (R.length : Int) := by omega
  have hq0 : 0 ≤ kNs p.Nodes 1 + 3 * (p.Rules.length : Int) := by have := kNs_ge p.Nodes 1; omega
  have d1 := heldProgram_ok1 _ _ (kNs N 1) (kNs N 1 + 3 * (R.length : Int)) (by omega) hq (by rw [hN]; exact heldNodeS_nil1 1) (heldRuleS_ok1 R.length (kNs N 1) g2 (by omega) g4)
  have s1 := oN_tk false p.Nodes
  have s2 := flatN p.Nodes
  have s3 := rR_tk p.Rules
  have s4 := oN_tk nl N
  have s5 := oN_flat nl N
  have s6 := rR_tk R
  have z1 : (oN nl (mNs N 1)).take N.length = oN nl (mNs N 1) := List.take_of_length_le (by rw [oN_len, mNs_len]; omega)
  have z2 := oN_flat nl (mNs N 1)
  have z3 : (rR (mR R.length (kNs N 1))).take R.length = rR (mR R.length (kNs N 1)) := List.take_of_length_le (by simp [rR, mR_len])
  clear n3 g3 n4 g4 e00
  clear hN
  generalize kNs N 1 + 3 * (R.length : Int) = kk at m1 d1 hq
  generalize kNs p.Nodes 1 + 3 * (p.Rules.length : Int) = k0 at m0 hq0
  exact fn V3 Try.func3

theorem law_10 (p : GProgram) (nl : Bool) (N : List GNode) (R : List GRule) (hR : R = []) (hz : fnL Try.prog T1 L1 4 [.agg [.d (.sl 3 (rN p.Nodes)), .d (.sl 3 (rR p.Rules))], .c (.d (.v (.int .i64 (1048576))))] [] = some (.one (.c (.d (.v (.int .i64 (szP p 1048576))))), [])) (hz0 : ¬ szP p 1048576 < 0)
    (n1 : p.Nodes.length ≤ 1048576) (n2 : p.Rules.length ≤ 1048576) (n3 : ∀ x ∈ p.Nodes, x.Kids.length ≤ 1048576) (n4 : kNs p.Nodes 1 + 3 * (p.Rules.length : Int) ≤ 1000000000) (g1 : N.length ≤ 1048576) (g2 : R.length ≤ 1048576) (g3 : ∀ x ∈ N, x.Kids.length ≤ 1048576) (g4 : kNs N 1 + 3 * (R.length : Int) ≤ 1000000000)
    (h2 : fnL Try.prog T1 L1 5 [.agg [.arr 0 0 p.Nodes.length, .arr 1 0 p.Rules.length]] [some (.nar 3 (oN false p.Nodes) []), some (.arr 3 (rR p.Rules))] = some (.one (.agg [.d (.sl 3 (rN N)), .d (.v (.slice none 0 0))]), [none, none])) (h3 : fnL Try.prog T1 L1 7 [.agg [.d (.sl 3 (rN p.Nodes)), .d (.sl 3 (rR p.Rules))]] [] = some (.one (.agg [.arr 0 0 N.length, .d (.v (.slice none 0 0))]), [some (.nar 3 (oN nl N) [])])) :
    fnL Try.prog T1 L1 3 [.agg [.d (.sl 3 (rN p.Nodes)), .d (.sl 3 (rR p.Rules))]] [] = some (.one (.c (.d (.v (.bool (true))))), []) := by
  have ht := toProgram_ok1 p n1 n2 n3
  have e00 := eqNodeS_ok1 false p.Nodes n1 n3
  rw [dN_false] at e00
  have e0 := eqProgram_ok1 _ _ _ _ e00 (eqRuleS_ok1 p.Rules n2)
  have e1 := eqProgram_ok1 _ _ _ _ (eqNodeS_ok1 nl N g1 g3) eqRuleS_nil1
  have m0 := markProgram_11 false p.Nodes p.Rules n1 n2 n3 n4
  have m1 := markProgram_10 nl N R hR g1 g2 g3 g4
  have hg := kNs_ge N 1
  have hq : 0 ≤ kNs N 1 + 3 * (R.length : Int) := by omega
  have hq0 : 0 ≤ kNs p.Nodes 1 + 3 * (p.Rules.length : Int) := by have := kNs_ge p.Nodes 1; omega
  have d1 := heldProgram_ok1 _ _ (kNs N 1) (kNs N 1 + 3 * (R.length : Int)) (by omega) hq (heldNodeS_ok1 nl N 1 g1 g3 (by omega) (by omega)) (by rw [hR, List.length_nil, Int.natCast_zero, Int.mul_zero, Int.add_zero]; exact heldRuleS_nil1 _)
  have s1 := oN_tk false p.Nodes
  have s2 := flatN p.Nodes
  have s3 := rR_tk p.Rules
  have s4 := oN_tk nl N
  have s5 := oN_flat nl N
  have s6 := rR_tk R
  have z1 : (oN nl (mNs N 1)).take N.length = oN nl (mNs N 1) := List.take_of_length_le (by rw [oN_len, mNs_len]; omega)
  have z2 := oN_flat nl (mNs N 1)
  have z3 : (rR (mR R.length (kNs N 1))).take R.length = rR (mR R.length (kNs N 1)) := List.take_of_length_le (by simp [rR, mR_len])
  clear n3 g3 n4 g4 e00
  clear hR
  generalize kNs N 1 + 3 * (R.length : Int) = kk at m1 d1 hq
  generalize kNs p.Nodes 1 + 3 * (p.Rules.length : Int) = k0 at m0 hq0
  exact fn V3 Try.func3

theorem law_11 (p : GProgram) (nl : Bool) (N : List GNode) (R : List GRule) (hz : fnL Try.prog T1 L1 4 [.agg [.d (.sl 3 (rN p.Nodes)), .d (.sl 3 (rR p.Rules))], .c (.d (.v (.int .i64 (1048576))))] [] = some (.one (.c (.d (.v (.int .i64 (szP p 1048576))))), [])) (hz0 : ¬ szP p 1048576 < 0)
    (n1 : p.Nodes.length ≤ 1048576) (n2 : p.Rules.length ≤ 1048576) (n3 : ∀ x ∈ p.Nodes, x.Kids.length ≤ 1048576) (n4 : kNs p.Nodes 1 + 3 * (p.Rules.length : Int) ≤ 1000000000) (g1 : N.length ≤ 1048576) (g2 : R.length ≤ 1048576) (g3 : ∀ x ∈ N, x.Kids.length ≤ 1048576) (g4 : kNs N 1 + 3 * (R.length : Int) ≤ 1000000000)
    (h2 : fnL Try.prog T1 L1 5 [.agg [.arr 0 0 p.Nodes.length, .arr 1 0 p.Rules.length]] [some (.nar 3 (oN false p.Nodes) []), some (.arr 3 (rR p.Rules))] = some (.one (.agg [.d (.sl 3 (rN N)), .d (.sl 3 (rR R))]), [none, none])) (h3 : fnL Try.prog T1 L1 7 [.agg [.d (.sl 3 (rN p.Nodes)), .d (.sl 3 (rR p.Rules))]] [] = some (.one (.agg [.arr 0 0 N.length, .arr 1 0 R.length]), [some (.nar 3 (oN nl N) []), some (.arr 3 (rR R))])) :
    fnL Try.prog T1 L1 3 [.agg [.d (.sl 3 (rN p.Nodes)), .d (.sl 3 (rR p.Rules))]] [] = some (.one (.c (.d (.v (.bool (true))))), []) := by
  have ht := toProgram_ok1 p n1 n2 n3
  have e00 := eqNodeS_ok1 false p.Nodes n1 n3
  rw [dN_false] at e00
  have e0 := eqProgram_ok1 _ _ _ _ e00 (eqRuleS_ok1 p.Rules n2)
  have e1 := eqProgram_ok1 _ _ _ _ (eqNodeS_ok1 nl N g1 g3) (eqRuleS_ok1 R g2)
  have m0 := markProgram_11 false p.Nodes p.Rules n1 n2 n3 n4
  have m1 := markProgram_11 nl N R g1 g2 g3 g4
  have hg := kNs_ge N 1
  have hq : 0 ≤ kNs N 1 + 3 * (R.length : Int) := by omega
  have hq0 : 0 ≤ kNs p.Nodes 1 + 3 * (p.Rules.length : Int) := by have := kNs_ge p.Nodes 1; omega
  have d1 := heldProgram_ok1 _ _ (kNs N 1) (kNs N 1 + 3 * (R.length : Int)) (by omega) hq (heldNodeS_ok1 nl N 1 g1 g3 (by omega) (by omega)) (heldRuleS_ok1 R.length (kNs N 1) g2 (by omega) g4)
  have s1 := oN_tk false p.Nodes
  have s2 := flatN p.Nodes
  have s3 := rR_tk p.Rules
  have s4 := oN_tk nl N
  have s5 := oN_flat nl N
  have s6 := rR_tk R
  have z1 : (oN nl (mNs N 1)).take N.length = oN nl (mNs N 1) := List.take_of_length_le (by rw [oN_len, mNs_len]; omega)
  have z2 := oN_flat nl (mNs N 1)
  have z3 : (rR (mR R.length (kNs N 1))).take R.length = rR (mR R.length (kNs N 1)) := List.take_of_length_le (by simp [rR, mR_len])
  clear n3 g3 n4 g4 e00
  generalize kNs N 1 + 3 * (R.length : Int) = kk at m1 d1 hq
  generalize kNs p.Nodes 1 + 3 * (p.Rules.length : Int) = k0 at m0 hq0
  exact fn V3 Try.func3

theorem law_main (rd : List UInt8 → Bool) (hR1 : Reads 51 rd) (hR2 : Reads 59 rd) (h24 : ∀ s, rd s = true → s.length ≤ 24) (p : GProgram) (hp : p.ok) : fnL Try.prog T1 L1 3 [.agg (p.enc.map .d)] [] = some (.one (.c (.d (.v (.bool (true))))), []) := by
  have hz := L1_of (szProgram_ok p 1048576 (by omega) hp) rfl
  have q1 := L1_of (progOk_ok rd hR1 h24 p hp) rfl
  have q2 := L1_of (sProgOk_ok rd hR2 h24 p hp) rfl
  have hf := fine_of rd p hp
  simp only [encP, List.map_cons, List.map_nil] at hz q1 q2 ⊢
  by_cases hs : szP p 1048576 < 0
  · generalize szP p 1048576 = r at hz hs
    clear hR1 hR2 h24 q1 q2 hf
    exact fn V3 Try.func3
  · obtain ⟨n1, n2, n3⟩ := szP_small p 1048576 (by omega) hs
    have n1 : p.Nodes.length ≤ 1048576 := by omega
    have n2 : p.Rules.length ≤ 1048576 := by omega
    have n3 : ∀ x ∈ p.Nodes, x.Kids.length ≤ 1048576 := fun x hx => by have := n3 x hx; omega
    have n4 : kNs p.Nodes 1 + 3 * (p.Rules.length : Int) ≤ 1000000000 := by
      have hs2 := hs
      unfold szP at hs2
      by_cases c1 : 1048576 - (p.Nodes.length : Int) < 0
      · omega
      · rw [if_neg c1] at hs2
        by_cases c2 : szNs p.Nodes (1048576 - p.Nodes.length) < 0
        · rw [if_pos c2] at hs2
          omega
        · have := kNs_sz p.Nodes (1048576 - p.Nodes.length) 1 (by omega) (by omega)
          omega
    generalize progOK rd p = t at q1 q2 hf
    cases t with
    | false =>
      by_cases hN : p.Nodes = []
      · exact law_01 p false p.Nodes p.Rules hN hz hs n1 n2 n3 n4 n1 n2 n3 n4 (sTidied_bad0 p hN n1 n2 n3 q2) (Tidied_bad0 p hN n1 n2 n3 q1)
      · exact law_11 p false p.Nodes p.Rules hz hs n1 n2 n3 n4 n1 n2 n3 n4 (sTidied_bad1 p hN n1 n2 n3 q2) (by simpa [oK] using Tidied_bad1 p hN n1 n2 n3 q1)
    | true =>
      replace hf := hf rfl
      have r1 := L1_of (reachedBy_ok p hf) rfl
      have r2 := L1_of (l18Reach_ok p hf) rfl
      simp only [encP, List.map_cons, List.map_nil] at r1 r2
      have hn := hf.n
      have hr := hf.r
      have l1 := tdN_n (reachL p) p.Nodes 0 (List.replicate p.Nodes.length 0, [])
      have l2 := tdN_kids (reachL p) 1048576 p.Nodes 0 (List.replicate p.Nodes.length 0, []) n3 (by simp)
      rw [show tdN (reachL p) p.Nodes 0 (List.replicate p.Nodes.length 0, []) = tdP p from rfl] at l1 l2
      simp only [List.length_nil, Nat.zero_add] at l1
      have l3 := kNs_le (tdP p).2 1 l2
      have l4 : (p.Rules.map (rTd (tdP p).1)).length ≤ 1048576 := by simp; omega
      have l5 : kNs (tdP p).2 1 + 3 * ((p.Rules.map (rTd (tdP p).1)).length : Int) ≤ 1000000000 := by simp; omega
      by_cases hN0 : p.Nodes = []
      · have hU : p.Rules = [] := by
          cases hq : p.Rules with
          | nil => rfl
          | cons r rs =>
            have := (hf.rules r (by rw [hq]; simp)).1
            rw [hN0] at this
            simp at this
            omega
        have hN : (tdP p).2 = [] := by unfold tdP; rw [hN0]; rfl
        exact law_00 p true (tdP p).2 (p.Rules.map (rTd (tdP p).1)) hN (by rw [hU]; rfl) hz hs n1 n2 n3 n4 (by omega) l4 l2 l5 (sTidied_zero p hN0 hU q2 r2) (Tidied_00 p hf n3 hN hU q1 r1)
      · by_cases hN : (tdP p).2 = []
        · by_cases hU : p.Rules = []
          · exact law_00 p true (tdP p).2 (p.Rules.map (rTd (tdP p).1)) hN (by rw [hU]; rfl) hz hs n1 n2 n3 n4 (by omega) l4 l2 l5 (sTidied_00 p hf n3 hN0 hN hU q2 r2) (Tidied_00 p hf n3 hN hU q1 r1)
          · exact law_01 p true (tdP p).2 (p.Rules.map (rTd (tdP p).1)) hN hz hs n1 n2 n3 n4 (by omega) l4 l2 l5 (sTidied_01 p hf n3 hN0 hN hU q2 r2) (Tidied_01 p hf n3 hN hU q1 r1)
        · by_cases hU : p.Rules = []
          · exact law_10 p true (tdP p).2 (p.Rules.map (rTd (tdP p).1)) (by rw [hU]; rfl) hz hs n1 n2 n3 n4 (by omega) l4 l2 l5 (sTidied_10 p hf n3 hN0 hN hU q2 r2) (Tidied_10 p hf n3 hN hU q1 r1)
          · exact law_11 p true (tdP p).2 (p.Rules.map (rTd (tdP p).1)) hz hs n1 n2 n3 n4 (by omega) l4 l2 l5 (sTidied_11 p hf n3 hN0 hN hU q2 r2) (Tidied_11 p hf n3 hN hU q1 r1)
end
end Go.Vsi
