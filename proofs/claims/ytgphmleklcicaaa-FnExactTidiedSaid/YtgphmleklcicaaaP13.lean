/- What the functions of the program, of the reference and of the law do (a part of it). -/
import Derived.Test.YtgphmleklcicaaaP12
namespace Go.Vsi
open Go.Proofs
noncomputable section
set_option maxRecDepth 100000
set_option maxHeartbeats 4000000
set_option linter.unusedSimpArgs false
set_option linter.unusedVariables false
attribute [local go_sem] IX9
/-- How far the closing bracket is. -/
def cutLen : List UInt8 → Nat
  | [] => 0
  | b :: l => if (b.toNat : Int) = 93 then 0 else cutLen l + 1
theorem sset_loop0 (s : List UInt8) (hs : s.length ≤ 24) (op b0 : Int) : ∀ (m n : Nat), n + m = s.length →
    loopC Try.prog T (fnL Try.prog T L0) 96 (cq Try.f96 [0, 0, 0, 1, 1, 1, 1, 1]) ⟨[.one (.c (.ptr 0 0 0)), J, J, .one (.c (.d (.v (.int .i64 (op))))), .one (.c (.d (.v (.int .i64 (b0))))), J, J, J, J, J, J, J, J, J, J, J, J, J, J, J, J, J, J, J, J, J, J, J, J, J, J, J, J, J, J, J, J, J, J, J, J, J, J, J, J, J, J, J, J, J, J, J, J, J, J, J, J, J, J, J, J, J, J, J, J, J, J, J, J, J, J, J, J, J, J, J, J, J, J, J, J, J, J, J, J, J, J, J, J, J, J, J, J, J, J, J, J, J, J, J, J, J], hpOf [some (.var [.d (.v (.string (B (s)))), .d (.v (.int .i64 ((n : Int)))), .d (.v (.bool (false))), .d (.v (.slice none 0 0))])], 1, 1⟩ = some (.exit 0, ⟨[.one (.c (.ptr 0 0 0)), J, J, .one (.c (.d (.v (.int .i64 (op))))), .one (.c (.d (.v (.int .i64 (b0))))), J, J, J, J, J, J, J, J, J, J, J, J, J, J, J, J, J, J, J, J, J, J, J, J, J, J, J, J, J, J, J, J, J, J, J, J, J, J, J, J, J, J, J, J, J, J, J, J, J, J, J, J, J, J, J, J, J, J, J, J, J, J, J, J, J, J, J, J, J, J, J, J, J, J, J, J, J, J, J, J, J, J, J, J, J, J, J, J, J, J, J, J, J, J, J, J, J], hpOf [some (.var [.d (.v (.string (B (s)))), .d (.v (.int .i64 (((n + cutLen (s.drop n) : Nat) : Int)))), .d (.v (.bool (false))), .d (.v (.slice none 0 0))])], 1, 1⟩)
  | 0, n, hm => by
    rw [List.drop_eq_nil_of_le (by omega), cutLen, Nat.add_zero]
    have hl2 : ¬ (n : Int) < (s.length : Int) := by omega
    exact lp W96
  | m + 1, n, hm => by
    have hl : n < s.length := by omega
    have hl2 : (n : Int) < (s.length : Int) := by omega
    have hi := ixAt s n hl
    rw [List.drop_eq_getElem_cons hl, cutLen]
    have ih := sset_loop0 s hs op b0 m (n + 1) (by omega)
    generalize s[n] = b at hi ⊢
    have ec : ((n + 1 : Nat) : Int) = (n : Int) + 1 := by omega
    by_cases hb : (b.toNat : Int) = 93
    · rw [if_pos hb, Nat.add_zero]
      clear ih
      rw [hb] at hi
      exact lp W96
    · rw [if_neg hb]
      have hq : eqI (b.toNat : Int) 93 = false := by simp [eqI, hb]
      rw [show n + (cutLen (s.drop (n + 1)) + 1) = n + 1 + cutLen (s.drop (n + 1)) by omega, ← ih, ec]
      clear ih hb
      exact lp W96
theorem sset_loop1 (s : List UInt8) (hs : s.length ≤ 24) (op b0 : Int) (r : Nat) (R : List (List D)) : ∀ (m n : Nat), n + m = s.length →
    loopC Try.prog T (fnL Try.prog T L0) 96 (cq Try.f96 [0, 0, 0, 1, 1, 1, 1, 1]) ⟨[.one (.c (.ptr 0 0 0)), J, J, .one (.c (.d (.v (.int .i64 (op))))), .one (.c (.d (.v (.int .i64 (b0))))), J, J, J, J, J, J, J, J, J, J, J, J, J, J, J, J, J, J, J, J, J, J, J, J, J, J, J, J, J, J, J, J, J, J, J, J, J, J, J, J, J, J, J, J, J, J, J, J, J, J, J, J, J, J, J, J, J, J, J, J, J, J, J, J, J, J, J, J, J, J, J, J, J, J, J, J, J, J, J, J, J, J, J, J, J, J, J, J, J, J, J, J, J, J, J, J, J], hpOf [some (.var [.d (.v (.string (B (s)))), .d (.v (.int .i64 ((n : Int)))), .d (.v (.bool (false))), .arr 1 0 r]), some (.arr 3 R)], 2, 2⟩ = some (.exit 0, ⟨[.one (.c (.ptr 0 0 0)), J, J, .one (.c (.d (.v (.int .i64 (op))))), .one (.c (.d (.v (.int .i64 (b0))))), J, J, J, J, J, J, J, J, J, J, J, J, J, J, J, J, J, J, J, J, J, J, J, J, J, J, J, J, J, J, J, J, J, J, J, J, J, J, J, J, J, J, J, J, J, J, J, J, J, J, J, J, J, J, J, J, J, J, J, J, J, J, J, J, J, J, J, J, J, J, J, J, J, J, J, J, J, J, J, J, J, J, J, J, J, J, J, J, J, J, J, J, J, J, J, J, J], hpOf [some (.var [.d (.v (.string (B (s)))), .d (.v (.int .i64 (((n + cutLen (s.drop n) : Nat) : Int)))), .d (.v (.bool (false))), .arr 1 0 r]), some (.arr 3 R)], 2, 2⟩)
  | 0, n, hm => by
    rw [List.drop_eq_nil_of_le (by omega), cutLen, Nat.add_zero]
    have hl2 : ¬ (n : Int) < (s.length : Int) := by omega
    exact lp W96
  | m + 1, n, hm => by
    have hl : n < s.length := by omega
    have hl2 : (n : Int) < (s.length : Int) := by omega
    have hi := ixAt s n hl
    rw [List.drop_eq_getElem_cons hl, cutLen]
    have ih := sset_loop1 s hs op b0 r R m (n + 1) (by omega)
    generalize s[n] = b at hi ⊢
    have ec : ((n + 1 : Nat) : Int) = (n : Int) + 1 := by omega
    by_cases hb : (b.toNat : Int) = 93
    · rw [if_pos hb, Nat.add_zero]
      clear ih
      rw [hb] at hi
      exact lp W96
    · rw [if_neg hb]
      have hq : eqI (b.toNat : Int) 93 = false := by simp [eqI, hb]
      rw [show n + (cutLen (s.drop (n + 1)) + 1) = n + 1 + cutLen (s.drop (n + 1)) by omega, ← ih, ec]
      clear ih hb
      exact lp W96
end
end Go.Vsi
