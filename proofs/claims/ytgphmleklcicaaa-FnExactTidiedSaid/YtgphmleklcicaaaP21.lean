/- What the functions of the program, of the reference and of the law do (a part of it). -/
import Derived.Test.YtgphmleklcicaaaP15
namespace Go.Vsi
open Go.Proofs
noncomputable section
set_option maxRecDepth 100000
set_option maxHeartbeats 4000000
set_option linter.unusedSimpArgs false
set_option linter.unusedVariables false
attribute [local go_sem] IX9
theorem sthing_92b (k : Nat) (h : PIS 67 mAlt 1 6 k) (s : List UInt8) (n : Nat) (R0 : List (List D)) (hn : n ≤ s.length) (hk : 6 * (s.length - n) + 3 ≤ k + 1) (hlen : R0.length + 2 * (s.length - n) ≤ 58 + (1 - 0)) (hs : s.length ≤ 24) (hl : n < s.length) (c94 : ¬ (s[n].toNat : Int) = 94) (c36 : ¬ (s[n].toNat : Int) = 36) (c46 : ¬ (s[n].toNat : Int) = 46) (c91 : ¬ (s[n].toNat : Int) = 91) (c40 : ¬ (s[n].toNat : Int) = 40) (c92 : (s[n].toNat : Int) = 92) (hm : n + 1 < s.length) (hsp : spec s[n + 1] = true) : AnsS s (R0.length + 2 * (s.length - n) + 2 * 0 + 1) R0 (fnL Try.prog T L0 91 [.c (.ptr 0 0 0)] (hS s n false R0)) (GoodS 0 s n R0) (mBase (k + 1) (s.drop n)) := by
  have hi := ixAt s n hl
  have hl2 : ¬ (s.length : Int) ≤ (n : Int) := by omega
  have hl3 : (n : Int) < (s.length : Int) := by omega
  have ec1 : ((n + 1 : Nat) : Int) = (n : Int) + 1 := by omega
  have ec2 : ((n + 1 + 1 : Nat) : Int) = (n : Int) + 1 + 1 := by omega
  rw [List.drop_eq_getElem_cons hl]
  simp only [mBase, nx, List.drop_succ_cons, List.drop_zero, show ((94 : UInt8).toNat : Int) = 94 from rfl, show ((36 : UInt8).toNat : Int) = 36 from rfl, show ((46 : UInt8).toNat : Int) = 46 from rfl, show ((91 : UInt8).toNat : Int) = 91 from rfl, show ((40 : UInt8).toNat : Int) = 40 from rfl]
  generalize s[n] = b at hi c94 c36 c46 c91 c40 c92 ⊢
  have q94 : eqI (b.toNat : Int) 94 = false := by simp [eqI, c94]
  simp only [decF c94]
  clear c94
  have q36 : eqI (b.toNat : Int) 36 = false := by simp [eqI, c36]
  simp only [decF c36]
  clear c36
  have q46 : eqI (b.toNat : Int) 46 = false := by simp [eqI, c46]
  simp only [decF c46]
  clear c46
  have q91 : eqI (b.toNat : Int) 91 = false := by simp [eqI, c91]
  simp only [decF c91]
  clear c91
  have q40 : eqI (b.toNat : Int) 40 = false := by simp [eqI, c40]
  simp only [decF c40]
  clear c40
  rw [c92] at hi
  simp only [mSingle, if_pos c92]
  clear c92 h
  have hj := ixAt s (n + 1) hm
  have hm2 : ¬ (s.length : Int) ≤ (n : Int) + 1 := by omega
  have hm3 : (n : Int) + 1 < (s.length : Int) := by omega
  rw [List.drop_eq_getElem_cons hm]
  generalize s[n + 1] = d at hj hsp ⊢
  have hd := l04Special_ok d
  rw [show (signs.any fun c => decide ((c.toNat : Int) = (d.toNat : Int))) = spec d from rfl, hsp] at hd
  simp only [hsp]
  clear hsp
  have hp := sput_nil 1 [d] s (n + 1 + 1) false R0 (by omega)
  simp only [if_true]
  refine ⟨R0.length, n + 1 + 1, R0 ++ [[.v (.int .i64 (1)), .v (.string (B ([d]))), .v (.slice none 0 0)]], ?_, by omega, rfl, ⟨by simp, by simp; omega⟩, by omega⟩
  clear hlen
  cases R0
  all_goals
    simp only [hS, hT, ec1, ec2] at hp hj ⊢
    refine nfW true (fun _ => W91.2) W91.1 Try.func91 rfl rfl fun c ht hr => ?_; simp only [okW, List.length_cons, List.length_nil, Nat.reduceAdd, firstReg, and_true] at c; (try simp (maxSteps := 4000000) (disch := first | assumption | omega) only [go_sem, *, arr_all, Option.isSome_some, hi, hj, hl2, hl3, hm2, hm3, hp, hd, convB, sliceRows, List.mapM_cons, List.mapM_nil, Option.pure_def, Option.bind_eq_bind, Option.bind_some, List.toList_toArray, List.length_append, ↓bin_eqI, ↓bin_neI, Nat.reduceAdd, Nat.reduceSub, Nat.reduceMul, Nat.reduceBEq, Nat.reduceLeDiff, Nat.reduceLT, Nat.reduceDiv, Nat.reduceMod]); repeat' ((first | with_reducible first | refine caK (fun hb => ?_) fun hb => ?_ | refine caG (fun hb => ?_) fun hb => ?_ | refine caP (fun hb => ?_) fun hb => ?_ | refine caH (fun hb => ?_) fun hb => ?_ | refine caQ (fun hb => ?_) fun hb => ?_ | refine ite_cases (fun hb => ?_) fun hb => ?_ | rw [drwK_ok rfl]) <;> try simp (maxSteps := 4000000) (disch := first | assumption | omega) only [go_sem, *, arr_all, Option.isSome_some, hi, hj, hl2, hl3, hm2, hm3, hp, hd, convB, sliceRows, List.mapM_cons, List.mapM_nil, Option.pure_def, Option.bind_eq_bind, Option.bind_some, List.toList_toArray, List.length_append, ↓bin_eqI, ↓bin_neI, Nat.reduceAdd, Nat.reduceSub, Nat.reduceMul, Nat.reduceBEq, Nat.reduceLeDiff, Nat.reduceLT, Nat.reduceDiv, Nat.reduceMod])
end
end Go.Vsi
