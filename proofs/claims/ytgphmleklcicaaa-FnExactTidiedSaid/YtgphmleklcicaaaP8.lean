/- What the functions of the program, of the reference and of the law do (a part of it). -/
import Derived.Test.YtgphmleklcicaaaP7
namespace Go.Vsi
open Go.Proofs
noncomputable section
set_option maxRecDepth 100000
set_option maxHeartbeats 4000000
set_option linter.unusedSimpArgs false
set_option linter.unusedVariables false
attribute [local go_sem ↓] IX9
theorem nx_drop {c : UInt8} {l : List UInt8} (h : nx c l = true) : (l.drop 1).length + 1 = l.length := by
  cases l with
  | nil => simp [nx] at h
  | cons => simp
theorem mSingle_le (l rest : List UInt8) (h : mSingle l = some rest) : rest.length + 1 ≤ l.length := by
  cases l with
  | nil => cases h
  | cons b l =>
    simp only [mSingle] at h
    split at h
    · cases l with
      | nil => cases h
      | cons c r =>
        simp only at h
        split at h
        · obtain rfl := Option.some.inj h
          simp
        · cases h
    · split at h
      · cases h
      · obtain rfl := Option.some.inj h
        simp
theorem base_of (k : Nat) (h : PI 63 mAlt 1 6 k) : PI 89 mBase 0 3 (k + 1) := by
  intro l R0 hk hR hlen h24
  have h1 := take_ok 94 l false R0
  have h2 := take_ok 36 l false R0
  have h3 := take_ok 46 l false R0
  have h4 := take_ok 91 l false R0
  have h5 := take_ok 40 l false R0
  simp only [show ((94 : UInt8).toNat : Int) = 94 from rfl, show ((36 : UInt8).toNat : Int) = 36 from rfl, show ((46 : UInt8).toNat : Int) = 46 from rfl, show ((91 : UInt8).toNat : Int) = 91 from rfl, show ((40 : UInt8).toNat : Int) = 40 from rfl] at h1 h2 h3 h4 h5
  simp only [mBase]
  cases c1 : nx 94 l with
  | true =>
    have hd := nx_drop c1
    have hp := put_nil 10 [] (l.drop 1) false R0 (by omega)
    refine ⟨R0.length, R0 ++ [row 10 [] []], ?_, rowsOK_snoc hR (by simp [pOK, textFit, kidsNum]), by simp, by simp; omega, by omega⟩
    rw [c1] at h1
    simp only [adv] at h1
    generalize l.drop 1 = l1 at h1 hp ⊢
    clear h2 h3 h4 h5 c1  hd hR hlen hk h
    cases R0
    all_goals
      simp only [hP, hQ] at h1 hp ⊢
      refine nfW true (fun _ => W89.2) W89.1 Try.func89 rfl rfl fun c ht hr => ?_; simp only [okW, List.length_cons, List.length_nil, Nat.reduceAdd, firstReg, and_true] at c; (try simp (maxSteps := 4000000) (disch := first | assumption | omega) only [go_sem, *, h1, hp, List.length_append, ↓bin_eqI, ↓bin_neI, Nat.reduceAdd, Nat.reduceSub, Nat.reduceMul, Nat.reduceBEq, Nat.reduceLeDiff, Nat.reduceLT, Nat.reduceDiv, Nat.reduceMod]); repeat' ((first | with_reducible first | refine caK (fun hb => ?_) fun hb => ?_ | refine caG (fun hb => ?_) fun hb => ?_ | refine caP (fun hb => ?_) fun hb => ?_ | refine caH (fun hb => ?_) fun hb => ?_ | refine caQ (fun hb => ?_) fun hb => ?_ | refine ite_cases (fun hb => ?_) fun hb => ?_ | rw [drwK_ok rfl]) <;> try simp (maxSteps := 4000000) (disch := first | assumption | omega) only [go_sem, *, h1, hp, List.length_append, ↓bin_eqI, ↓bin_neI, Nat.reduceAdd, Nat.reduceSub, Nat.reduceMul, Nat.reduceBEq, Nat.reduceLeDiff, Nat.reduceLT, Nat.reduceDiv, Nat.reduceMod])
  | false =>
    simp only
    cases c2 : nx 36 l with
    | true =>
      have hd := nx_drop c2
      have hp := put_nil 11 [] (l.drop 1) false R0 (by omega)
      refine ⟨R0.length, R0 ++ [row 11 [] []], ?_, rowsOK_snoc hR (by simp [pOK, textFit, kidsNum]), by simp, by simp; omega, by omega⟩
      rw [c2] at h2
      rw [c1] at h1
      simp only [adv] at h1 h2
      generalize l.drop 1 = l1 at h2 hp ⊢
      clear h3 h4 h5 c2 c1 hd hR hlen hk h
      cases R0
      all_goals
        simp only [hP, hQ] at h1 h2 hp ⊢
        refine nfW true (fun _ => W89.2) W89.1 Try.func89 rfl rfl fun c ht hr => ?_; simp only [okW, List.length_cons, List.length_nil, Nat.reduceAdd, firstReg, and_true] at c; (try simp (maxSteps := 4000000) (disch := first | assumption | omega) only [go_sem, *, h1, h2, hp, List.length_append, ↓bin_eqI, ↓bin_neI, Nat.reduceAdd, Nat.reduceSub, Nat.reduceMul, Nat.reduceBEq, Nat.reduceLeDiff, Nat.reduceLT, Nat.reduceDiv, Nat.reduceMod]); repeat' ((first | with_reducible first | refine caK (fun hb => ?_) fun hb => ?_ | refine caG (fun hb => ?_) fun hb => ?_ | refine caP (fun hb => ?_) fun hb => ?_ | refine caH (fun hb => ?_) fun hb => ?_ | refine caQ (fun hb => ?_) fun hb => ?_ | refine ite_cases (fun hb => ?_) fun hb => ?_ | rw [drwK_ok rfl]) <;> try simp (maxSteps := 4000000) (disch := first | assumption | omega) only [go_sem, *, h1, h2, hp, List.length_append, ↓bin_eqI, ↓bin_neI, Nat.reduceAdd, Nat.reduceSub, Nat.reduceMul, Nat.reduceBEq, Nat.reduceLeDiff, Nat.reduceLT, Nat.reduceDiv, Nat.reduceMod])
    | false =>
      simp only
      cases c3 : nx 46 l with
      | true =>
        have hd := nx_drop c3
        have hp := put_nil 2 [] (l.drop 1) false R0 (by omega)
        refine ⟨R0.length, R0 ++ [row 2 [] []], ?_, rowsOK_snoc hR (by simp [pOK, textFit, kidsNum]), by simp, by simp; omega, by omega⟩
        rw [c3] at h3
        rw [c1] at h1
        rw [c2] at h2
        simp only [adv] at h1 h2 h3
        generalize l.drop 1 = l1 at h3 hp ⊢
        clear h4 h5 c3 c1 c2 hd hR hlen hk h
        cases R0
        all_goals
          simp only [hP, hQ] at h1 h2 h3 hp ⊢
          refine nfW true (fun _ => W89.2) W89.1 Try.func89 rfl rfl fun c ht hr => ?_; simp only [okW, List.length_cons, List.length_nil, Nat.reduceAdd, firstReg, and_true] at c; (try simp (maxSteps := 4000000) (disch := first | assumption | omega) only [go_sem, *, h1, h2, h3, hp, List.length_append, ↓bin_eqI, ↓bin_neI, Nat.reduceAdd, Nat.reduceSub, Nat.reduceMul, Nat.reduceBEq, Nat.reduceLeDiff, Nat.reduceLT, Nat.reduceDiv, Nat.reduceMod]); repeat' ((first | with_reducible first | refine caK (fun hb => ?_) fun hb => ?_ | refine caG (fun hb => ?_) fun hb => ?_ | refine caP (fun hb => ?_) fun hb => ?_ | refine caH (fun hb => ?_) fun hb => ?_ | refine caQ (fun hb => ?_) fun hb => ?_ | refine ite_cases (fun hb => ?_) fun hb => ?_ | rw [drwK_ok rfl]) <;> try simp (maxSteps := 4000000) (disch := first | assumption | omega) only [go_sem, *, h1, h2, h3, hp, List.length_append, ↓bin_eqI, ↓bin_neI, Nat.reduceAdd, Nat.reduceSub, Nat.reduceMul, Nat.reduceBEq, Nat.reduceLeDiff, Nat.reduceLT, Nat.reduceDiv, Nat.reduceMod])
      | false =>
        simp only
        cases c4 : nx 91 l with
        | true =>
          have hd := nx_drop c4
          simp only
          have hs := set_ok (R0.length + 2 * l.length + 2 * 0 + 1) (l.drop 1) R0 (by omega) (by omega)
          rw [c1] at h1
          rw [c2] at h2
          rw [c3] at h3
          rw [c4] at h4
          simp only [adv] at h1 h2 h3 h4
          clear h5 c1 c2 c3 c4 h
          generalize l.drop 1 = l1 at h4 hs hd ⊢
          cases hm : mSet l1 with
          | none =>
            rw [hm] at hs
            clear hm hd hk hR hlen
            obtain ⟨w, bs, e, hbs⟩ := hs
            refine ⟨w, bs, ?_, hbs⟩
            rcases hbs with ⟨l', rfl⟩ | ⟨l', R, z1, z2, rfl⟩
            · cases R0
              all_goals
                simp only [hP] at h1 h2 h3 h4 e ⊢
                exact fn W89 Try.func89
            · cases R0
              all_goals
                simp only [hP, hQ] at h1 h2 h3 h4 e ⊢
                exact fn W89 Try.func89
          | some r =>
            rw [hm] at hs
            obtain ⟨a, R, e, ea, op, t, eo, et1, et2, eR⟩ := hs
            refine ⟨a, R, ?_, ?_, ?_, ?_, ?_⟩
            · clear hm hd hk hR hlen ea eo et1 et2 eR
              cases R0
              all_goals
                simp only [hP, hQ] at h1 h2 h3 h4 e ⊢
                exact fn W89 Try.func89
            · rw [eR]
              exact rowsOK_snoc hR (by rcases eo with rfl | rfl <;> simp [pOK, textFit, kidsNum] <;> omega)
            · rw [eR, ea]; simp
            · rw [eR]; simp; omega
            · omega
        | false =>
          simp only
          rw [c1] at h1
          rw [c2] at h2
          rw [c3] at h3
          rw [c4] at h4
          clear c1 c2 c3 c4
          cases c5 : nx 40 l with
          | true =>
            have hd := nx_drop c5
            rw [c5] at h5
            simp only [adv] at h1 h2 h3 h4 h5
            have hs := group_of (R0.length + 2 * l.length + 2 * 0 + 1) k h (l.drop 1) R0 (by omega) hR (by omega) (by omega) (by omega)
            show Ans _ R0 _ _ (mGroup k (l.drop 1))
            clear c5 h
            generalize l.drop 1 = l1 at h5 hs hd ⊢
            cases hm : mGroup k l1 with
            | none =>
              rw [hm] at hs
              clear hm hd hk hR hlen
              obtain ⟨w, bs, e, hbs⟩ := hs
              refine ⟨w, bs, ?_, hbs⟩
              rcases hbs with ⟨l', rfl⟩ | ⟨l', R, z1, z2, rfl⟩
              · cases R0
                all_goals
                  simp only [hP] at h1 h2 h3 h4 h5 e ⊢
                  exact fn W89 Try.func89
              · cases R0
                all_goals
                  simp only [hP, hQ] at h1 h2 h3 h4 h5 e ⊢
                  exact fn W89 Try.func89
            | some r =>
              rw [hm] at hs
              obtain ⟨a, R, e, g1, g2, g3, g4⟩ := hs
              refine ⟨a, R, ?_, g1, g2, by omega, by omega⟩
              clear hm hd hk hR hlen g1 g2 g3 g4
              cases R0
              all_goals
                simp only [hP, hQ] at h1 h2 h3 h4 h5 e ⊢
                exact fn W89 Try.func89
          | false =>
            rw [c5] at h5
            simp only [adv] at h1 h2 h3 h4 h5
            have hs := single_ok (R0.length + 2 * l.length + 2 * 0 + 1) l R0 (by omega) (by omega)
            simp only
            clear c5 h
            cases hm : mSingle l with
            | none =>
              rw [hm] at hs
              clear hm hk hR hlen
              obtain ⟨w, bs, e, hbs⟩ := hs
              refine ⟨w, bs, ?_, hbs⟩
              rcases hbs with ⟨l', rfl⟩ | ⟨l', R, z1, z2, rfl⟩
              · cases R0
                all_goals
                  simp only [hP] at h1 h2 h3 h4 h5 e ⊢
                  exact fn W89 Try.func89
              · cases R0
                all_goals
                  simp only [hP, hQ] at h1 h2 h3 h4 h5 e ⊢
                  exact fn W89 Try.func89
            | some r =>
              have hle := mSingle_le l r hm
              rw [hm] at hs
              obtain ⟨a, R, e, ea, t, et, eR⟩ := hs
              refine ⟨a, R, ?_, ?_, ?_, ?_, ?_⟩
              · clear hm hle hk hR hlen ea et eR
                cases R0
                all_goals
                  simp only [hP, hQ] at h1 h2 h3 h4 h5 e ⊢
                  exact fn W89 Try.func89
              · rw [eR]
                exact rowsOK_snoc hR (by simp [pOK, textFit, kidsNum, et])
              · rw [eR, ea]; simp
              · rw [eR]; simp; omega
              · omega
end
end Go.Vsi
