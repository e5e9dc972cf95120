/- What the functions of the program, of the reference and of the law do (a part of it). -/
import Derived.Test.YtgphmleklcicaaaP15
namespace Go.Vsi
open Go.Proofs
noncomputable section
set_option maxRecDepth 100000
set_option maxHeartbeats 4000000
set_option linter.unusedSimpArgs false
set_option linter.unusedVariables false
attribute [local go_sem] IX9
theorem sthing_92a (k : Nat) (h : PIS 67 mAlt 1 6 k) (s : List UInt8) (n : Nat) (R0 : List (List D)) (hn : n ≤ s.length) (hk : 6 * (s.length - n) + 3 ≤ k + 1) (hlen : R0.length + 2 * (s.length - n) ≤ 58 + (1 - 0)) (hs : s.length ≤ 24) (hl : n < s.length) (c94 : ¬ (s[n].toNat : Int) = 94) (c36 : ¬ (s[n].toNat : Int) = 36) (c46 : ¬ (s[n].toNat : Int) = 46) (c91 : ¬ (s[n].toNat : Int) = 91) (c40 : ¬ (s[n].toNat : Int) = 40) (c92 : (s[n].toNat : Int) = 92) (hm : ¬ n + 1 < s.length) : AnsS s (R0.length + 2 * (s.length - n) + 2 * 0 + 1) R0 (fnL Try.prog T L0 91 [.c (.ptr 0 0 0)] (hS s n false R0)) (GoodS 0 s n R0) (mBase (k + 1) (s.drop n)) := by
  have hi := ixAt s n hl
  have hl2 : ¬ (s.length : Int) ≤ (n : Int) := by omega
  have hl3 : (n : Int) < (s.length : Int) := by omega
  have ec1 : ((n + 1 : Nat) : Int) = (n : Int) + 1 := by omega
  have ec2 : ((n + 1 + 1 : Nat) : Int) = (n : Int) + 1 + 1 := by omega
  rw [List.drop_eq_getElem_cons hl]
  simp only [mBase, nx, List.drop_succ_cons, List.drop_zero, show ((94 : UInt8).toNat : Int) = 94 from rfl, show ((36 : UInt8).toNat : Int) = 36 from rfl, show ((46 : UInt8).toNat : Int) = 46 from rfl, show ((91 : UInt8).toNat : Int) = 91 from rfl, show ((40 : UInt8).toNat : Int) = 40 from rfl]
  generalize s[n] = b at hi c94 c36 c46 c91 c40 c92 ⊢
  have q94 : eqI (b.toNat : Int) 94 = false := by simp [eqI, c94]
  simp only [decF c94]
  clear c94
  have q36 : eqI (b.toNat : Int) 36 = false := by simp [eqI, c36]
  simp only [decF c36]
  clear c36
  have q46 : eqI (b.toNat : Int) 46 = false := by simp [eqI, c46]
  simp only [decF c46]
  clear c46
  have q91 : eqI (b.toNat : Int) 91 = false := by simp [eqI, c91]
  simp only [decF c91]
  clear c91
  have q40 : eqI (b.toNat : Int) 40 = false := by simp [eqI, c40]
  simp only [decF c40]
  clear c40
  rw [c92] at hi
  simp only [mSingle, if_pos c92]
  clear c92
  have hm2 : (s.length : Int) ≤ (n : Int) + 1 := by omega
  rw [List.drop_eq_nil_of_le (by omega)]
  refine ⟨0, hS s (n + 1) true R0, ?_, .inl ⟨_, rfl⟩⟩
  clear hlen h
  cases R0
  all_goals
    simp only [hS, hT, ec1, ec2] at ⊢
    exact fn W91 Try.func91
theorem sthing_92c (k : Nat) (h : PIS 67 mAlt 1 6 k) (s : List UInt8) (n : Nat) (R0 : List (List D)) (hn : n ≤ s.length) (hk : 6 * (s.length - n) + 3 ≤ k + 1) (hlen : R0.length + 2 * (s.length - n) ≤ 58 + (1 - 0)) (hs : s.length ≤ 24) (hl : n < s.length) (c94 : ¬ (s[n].toNat : Int) = 94) (c36 : ¬ (s[n].toNat : Int) = 36) (c46 : ¬ (s[n].toNat : Int) = 46) (c91 : ¬ (s[n].toNat : Int) = 91) (c40 : ¬ (s[n].toNat : Int) = 40) (c92 : (s[n].toNat : Int) = 92) (hm : n + 1 < s.length) (hsp : spec s[n + 1] = false) : AnsS s (R0.length + 2 * (s.length - n) + 2 * 0 + 1) R0 (fnL Try.prog T L0 91 [.c (.ptr 0 0 0)] (hS s n false R0)) (GoodS 0 s n R0) (mBase (k + 1) (s.drop n)) := by
  have hi := ixAt s n hl
  have hl2 : ¬ (s.length : Int) ≤ (n : Int) := by omega
  have hl3 : (n : Int) < (s.length : Int) := by omega
  have ec1 : ((n + 1 : Nat) : Int) = (n : Int) + 1 := by omega
  have ec2 : ((n + 1 + 1 : Nat) : Int) = (n : Int) + 1 + 1 := by omega
  rw [List.drop_eq_getElem_cons hl]
  simp only [mBase, nx, List.drop_succ_cons, List.drop_zero, show ((94 : UInt8).toNat : Int) = 94 from rfl, show ((36 : UInt8).toNat : Int) = 36 from rfl, show ((46 : UInt8).toNat : Int) = 46 from rfl, show ((91 : UInt8).toNat : Int) = 91 from rfl, show ((40 : UInt8).toNat : Int) = 40 from rfl]
  generalize s[n] = b at hi c94 c36 c46 c91 c40 c92 ⊢
  have q94 : eqI (b.toNat : Int) 94 = false := by simp [eqI, c94]
  simp only [decF c94]
  clear c94
  have q36 : eqI (b.toNat : Int) 36 = false := by simp [eqI, c36]
  simp only [decF c36]
  clear c36
  have q46 : eqI (b.toNat : Int) 46 = false := by simp [eqI, c46]
  simp only [decF c46]
  clear c46
  have q91 : eqI (b.toNat : Int) 91 = false := by simp [eqI, c91]
  simp only [decF c91]
  clear c91
  have q40 : eqI (b.toNat : Int) 40 = false := by simp [eqI, c40]
  simp only [decF c40]
  clear c40
  rw [c92] at hi
  simp only [mSingle, if_pos c92]
  clear c92 h
  have hj := ixAt s (n + 1) hm
  have hm2 : ¬ (s.length : Int) ≤ (n : Int) + 1 := by omega
  have hm3 : (n : Int) + 1 < (s.length : Int) := by omega
  rw [List.drop_eq_getElem_cons hm]
  generalize s[n + 1] = d at hj hsp ⊢
  have hd := l04Special_ok d
  rw [show (signs.any fun c => decide ((c.toNat : Int) = (d.toNat : Int))) = spec d from rfl, hsp] at hd
  simp only [hsp]
  clear hsp
  simp only [Bool.false_eq_true, if_false]
  refine ⟨0, hS s (n + 1) true R0, ?_, .inl ⟨_, rfl⟩⟩
  clear hlen
  cases R0
  all_goals
    simp only [hS, hT, ec1, ec2] at hj ⊢
    exact fn W91 Try.func91
end
end Go.Vsi
