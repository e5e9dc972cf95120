/- What the functions of the program, of the reference and of the law do (a part of it). -/
import Derived.Test.YtgphmleklcicaaaQ1
namespace Go.Vsi
open Go.Proofs
noncomputable section
set_option maxRecDepth 100000
set_option maxHeartbeats 4000000
set_option linter.unusedSimpArgs false
set_option linter.unusedVariables false
attribute [local go_sem ↓] IX9
theorem eqIntS_loop1 (xs : List Int) (hx : xs.length ≤ 1048576) : ∀ (m : Nat) (i : Int), 0 ≤ i → i + m = xs.length →
    loopC Try.prog T1 (fnL Try.prog T1 L1) 55 (cq Try.f55 [0, 0, 1, 0, 1, 1]) ⟨[.one (.c (.d (.sl 1 (rI xs)))), .one (.c (.d (.sl 1 (rI xs)))), J, J, J, .one (.c (.d (.v (.int .i64 (i))))), J, J, J, J, J, J, J, J, J, J, J, J, J, J, J, J, J, J, J, J], hpOf [], 0, 0⟩ = some (.exit 0, ⟨[J, J, J, J, J, J, J, J, J, J, J, J, J, J, J, J, J, J, J, J, J, J, J, J, J, J], hpOf [], 0, 0⟩)
  | 0, i, h0, hm => by
    exact lp V55
  | m + 1, i, h0, hm => by
    have hil : i.toNat < xs.length := by omega
    have ih := eqIntS_loop1 xs hx m (i + 1) (by omega) (by omega)
    have hg := rI_get' xs i.toNat hil
    generalize xs[i.toNat] = x at hg
    rw [← ih]
    clear ih
    exact lp V55
theorem eqIntS_ok1 (nl : Bool) (ks : List Int) (hx : ks.length ≤ 1048576) : fnL Try.prog T1 L1 55 [.c (.d (dK nl ks)), .c (.d (.sl 1 (rI ks)))] [] = some (.one (.c (.d (.v (.bool (true))))), []) := by
  have h : fnL Try.prog T1 L1 55 [.c (.d (.sl 1 (rI ks))), .c (.d (.sl 1 (rI ks)))] [] = some (.one (.c (.d (.v (.bool (true))))), []) := by
    have Lp := eqIntS_loop1 ks hx ks.length 0 (by omega) (by omega)
    exact fn V55 Try.func55
  cases nl with
  | false => exact h
  | true =>
    cases ks with
    | cons k ks => exact h
    | nil =>
      clear h
      have h : loopC Try.prog T1 (fnL Try.prog T1 L1) 55 (cq Try.f55 [0, 0, 1, 0, 1, 1]) ⟨[.one (.c (.d (.v (.slice none 0 0)))), .one (.c (.d (.sl 1 ([])))), J, J, J, .one (.c (.d (.v (.int .i64 (0))))), J, J, J, J, J, J, J, J, J, J, J, J, J, J, J, J, J, J, J, J], hpOf [], 0, 0⟩ = some (.exit 0, ⟨[J, J, J, J, J, J, J, J, J, J, J, J, J, J, J, J, J, J, J, J, J, J, J, J, J, J], hpOf [], 0, 0⟩) := by
        exact lp V55
      simp only [dK, rI_nil]
      exact fn V55 Try.func55
theorem eqNode_ok1 (nl : Bool) (x : GNode) (hx : x.Kids.length ≤ 1048576) : fnL Try.prog T1 L1 39 [.agg [.d (.v (.int .i64 (x.Op))), .d (.v (.string (B (x.Text)))), .d (dK nl x.Kids)], .agg [.d (.v (.int .i64 (x.Op))), .d (.v (.string (B (x.Text)))), .d (.sl 1 (rI x.Kids))]] [] = some (.one (.c (.d (.v (.bool (true))))), []) := by
  have h := eqIntS_ok1 nl x.Kids hx
  generalize dK nl x.Kids = d at h ⊢
  exact fn V39 Try.func39
theorem eqRule_ok1 (x : GRule) : fnL Try.prog T1 L1 40 [.agg (x.enc.map .d), .agg (x.enc.map .d)] [] = some (.one (.c (.d (.v (.bool (true))))), []) := by
  simp only [GRule.enc, List.map_cons, List.map_nil]
  exact fn V40 Try.func40
theorem eqNodeS_loop1 (nl : Bool) (xs : List GNode) (hx : xs.length ≤ 1048576) (hb : ∀ x ∈ xs, x.Kids.length ≤ 1048576) : ∀ (m : Nat) (i : Int), 0 ≤ i → i + m = xs.length →
    loopC Try.prog T1 (fnL Try.prog T1 L1) 21 (cq Try.f21 [0, 0, 1, 0, 1, 1]) ⟨[.one (.c (.d (.sl 3 (dN nl xs)))), .one (.c (.d (.sl 3 (rN xs)))), J, J, J, .one (.c (.d (.v (.int .i64 (i))))), J, J, J, J, J, J, J, J, J, J, J, J, J, J, J, J, J, J, J, J, J], hpOf [], 0, 0⟩ = some (.exit 0, ⟨[J, J, J, J, J, J, J, J, J, J, J, J, J, J, J, J, J, J, J, J, J, J, J, J, J, J, J], hpOf [], 0, 0⟩)
  | 0, i, h0, hm => by
    clear hb
    exact lp V21
  | m + 1, i, h0, hm => by
    have hil : i.toNat < xs.length := by omega
    have ih := eqNodeS_loop1 nl xs hx hb m (i + 1) (by omega) (by omega)
    have hg := rN_get xs i.toNat hil
    have hg2 := dN_get nl xs i.toNat hil
    have h3 := eqNode_ok1 nl xs[i.toNat] (hb _ (List.getElem_mem _))
    generalize xs[i.toNat] = x at hg hg2 h3
    simp only [encNd, dNd] at hg hg2
    generalize dK nl x.Kids = d at hg2 h3
    rw [← ih]
    clear ih hb
    exact lp V21
theorem eqNodeS_ok1 (nl : Bool) (xs : List GNode) (hx : xs.length ≤ 1048576) (hb : ∀ x ∈ xs, x.Kids.length ≤ 1048576) : fnL Try.prog T1 L1 21 [.c (.d (.sl 3 (dN nl xs))), .c (.d (.sl 3 (rN xs)))] [] = some (.one (.c (.d (.v (.bool (true))))), []) := by
  have Lp := eqNodeS_loop1 nl xs hx hb xs.length 0 (by omega) (by omega)
  clear hb
  exact fn V21 Try.func21
theorem eqRuleS_loop1 (xs : List GRule) (hx : xs.length ≤ 1048576) : ∀ (m : Nat) (i : Int), 0 ≤ i → i + m = xs.length →
    loopC Try.prog T1 (fnL Try.prog T1 L1) 22 (cq Try.f22 [0, 0, 1, 0, 1, 1]) ⟨[.one (.c (.d (.sl 3 (rR xs)))), .one (.c (.d (.sl 3 (rR xs)))), J, J, J, .one (.c (.d (.v (.int .i64 (i))))), J, J, J, J, J, J, J, J, J, J, J, J, J, J, J, J, J, J, J, J, J], hpOf [], 0, 0⟩ = some (.exit 0, ⟨[J, J, J, J, J, J, J, J, J, J, J, J, J, J, J, J, J, J, J, J, J, J, J, J, J, J, J], hpOf [], 0, 0⟩)
  | 0, i, h0, hm => by
    exact lp V22
  | m + 1, i, h0, hm => by
    have hil : i.toNat < xs.length := by omega
    have ih := eqRuleS_loop1 xs hx m (i + 1) (by omega) (by omega)
    have hg := rR_get xs i.toNat hil
    have h3 := eqRule_ok1 xs[i.toNat]
    generalize xs[i.toNat] = x at hg h3
    simp only [GRule.enc, List.map_cons, List.map_nil] at hg h3
    rw [← ih]
    clear ih
    exact lp V22
theorem eqRuleS_ok1 (xs : List GRule) (hx : xs.length ≤ 1048576) : fnL Try.prog T1 L1 22 [.c (.d (.sl 3 (rR xs))), .c (.d (.sl 3 (rR xs)))] [] = some (.one (.c (.d (.v (.bool (true))))), []) := by
  have Lp := eqRuleS_loop1 xs hx xs.length 0 (by omega) (by omega)
  exact fn V22 Try.func22

theorem eqNodeS_nil0 : fnL Try.prog T1 L1 21 [.c (.d (.v (.slice none 0 0))), .c (.d (.sl 3 []))] [] = some (.one (.c (.d (.v (.bool (true))))), []) := by
  have h : loopC Try.prog T1 (fnL Try.prog T1 L1) 21 (cq Try.f21 [0, 0, 1, 0, 1, 1]) ⟨[.one (.c (.d (.v (.slice none 0 0)))), .one (.c (.d (.sl 3 []))), J, J, J, .one (.c (.d (.v (.int .i64 (0))))), J, J, J, J, J, J, J, J, J, J, J, J, J, J, J, J, J, J, J, J, J], hpOf [], 0, 0⟩ = some (.exit 0, ⟨[J, J, J, J, J, J, J, J, J, J, J, J, J, J, J, J, J, J, J, J, J, J, J, J, J, J, J], hpOf [], 0, 0⟩) := by
    exact lp V21
  exact fn V21 Try.func21

theorem eqNodeS_nil1 : fnL Try.prog T1 L1 21 [.c (.d (.v (.slice none 0 0))), .c (.d (.v (.slice none 0 0)))] [] = some (.one (.c (.d (.v (.bool (true))))), []) := by
  have h : loopC Try.prog T1 (fnL Try.prog T1 L1) 21 (cq Try.f21 [0, 0, 1, 0, 1, 1]) ⟨[.one (.c (.d (.v (.slice none 0 0)))), .one (.c (.d (.v (.slice none 0 0)))), J, J, J, .one (.c (.d (.v (.int .i64 (0))))), J, J, J, J, J, J, J, J, J, J, J, J, J, J, J, J, J, J, J, J, J], hpOf [], 0, 0⟩ = some (.exit 0, ⟨[J, J, J, J, J, J, J, J, J, J, J, J, J, J, J, J, J, J, J, J, J, J, J, J, J, J, J], hpOf [], 0, 0⟩) := by
    exact lp V21
  exact fn V21 Try.func21

theorem eqRuleS_nil0 : fnL Try.prog T1 L1 22 [.c (.d (.v (.slice none 0 0))), .c (.d (.sl 3 []))] [] = some (.one (.c (.d (.v (.bool (true))))), []) := by
  have h : loopC Try.prog T1 (fnL Try.prog T1 L1) 22 (cq Try.f22 [0, 0, 1, 0, 1, 1]) ⟨[.one (.c (.d (.v (.slice none 0 0)))), .one (.c (.d (.sl 3 []))), J, J, J, .one (.c (.d (.v (.int .i64 (0))))), J, J, J, J, J, J, J, J, J, J, J, J, J, J, J, J, J, J, J, J, J], hpOf [], 0, 0⟩ = some (.exit 0, ⟨[J, J, J, J, J, J, J, J, J, J, J, J, J, J, J, J, J, J, J, J, J, J, J, J, J, J, J], hpOf [], 0, 0⟩) := by
    exact lp V22
  exact fn V22 Try.func22

theorem eqRuleS_nil1 : fnL Try.prog T1 L1 22 [.c (.d (.v (.slice none 0 0))), .c (.d (.v (.slice none 0 0)))] [] = some (.one (.c (.d (.v (.bool (true))))), []) := by
  have h : loopC Try.prog T1 (fnL Try.prog T1 L1) 22 (cq Try.f22 [0, 0, 1, 0, 1, 1]) ⟨[.one (.c (.d (.v (.slice none 0 0)))), .one (.c (.d (.v (.slice none 0 0)))), J, J, J, .one (.c (.d (.v (.int .i64 (0))))), J, J, J, J, J, J, J, J, J, J, J, J, J, J, J, J, J, J, J, J, J], hpOf [], 0, 0⟩ = some (.exit 0, ⟨[J, J, J, J, J, J, J, J, J, J, J, J, J, J, J, J, J, J, J, J, J, J, J, J, J, J, J], hpOf [], 0, 0⟩) := by
    exact lp V22
  exact fn V22 Try.func22

theorem eqProgram_ok1 (a b c d : D) (h1 : fnL Try.prog T1 L1 21 [.c (.d a), .c (.d b)] [] = some (.one (.c (.d (.v (.bool (true))))), [])) (h2 : fnL Try.prog T1 L1 22 [.c (.d c), .c (.d d)] [] = some (.one (.c (.d (.v (.bool (true))))), [])) : fnL Try.prog T1 L1 8 [.agg [.d a, .d c], .agg [.d b, .d d]] [] = some (.one (.c (.d (.v (.bool (true))))), []) := by
  exact fn V8 Try.func8
end
end Go.Vsi
