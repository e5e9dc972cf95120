/- What the functions of the program, of the reference and of the law do (a part of it). -/
import Derived.Test.YtgphmleklcicaaaQ3
namespace Go.Vsi
open Go.Proofs
noncomputable section
set_option maxRecDepth 100000
set_option maxHeartbeats 4000000
set_option linter.unusedSimpArgs false
set_option linter.unusedVariables false
attribute [local go_sem ↓] IX9
theorem drop_cons' {α : Type} {l : List α} {n : Nat} {x : α} {r : List α} (h : l.drop n = x :: r) : l[n]? = some x ∧ l.drop (n + 1) = r := by
  have h1 : (l.drop n)[0]? = some x := by rw [h]; rfl
  have h2 : (l.drop n).drop 1 = r := by rw [h]; rfl
  rw [List.getElem?_drop] at h1
  rw [List.drop_drop] at h2
  exact ⟨by simpa using h1, h2⟩

theorem heldIntS_loop1 (ys : List Int) (hx : ys.length ≤ 1048576) : ∀ (m : Nat) (i k : Int), 0 ≤ i → i + m = ys.length → ys.drop i.toNat = mI m k → 0 ≤ k → k + (m : Int) ≤ 1000000000 →
    loopC Try.prog T1 (fnL Try.prog T1 L1) 43 (cq Try.f43 [0, 0, 1, 0, 1]) ⟨[.one (.c (.d (.sl 1 (rI ys)))), .one (.c (.d (.v (.int .i64 (k))))), J, J, J, .one (.c (.d (.v (.int .i64 (i))))), J, J, J, J, J, J, J, J, J, J, J, J, J, J, J], hpOf [], 0, 0⟩ = some (.exit 0, ⟨[J, .one (.c (.d (.v (.int .i64 (k + (m : Int)))))), J, J, J, J, J, J, J, J, J, J, J, J, J, J, J, J, J, J, J], hpOf [], 0, 0⟩)
  | 0, i, k, hi, hm, hd, hk, hb => by
    simp only [Int.natCast_zero, Int.mul_zero, Int.add_zero]
    clear hd
    exact lp V43
  | m + 1, i, k, hi, hm, hd, hk, hb => by
    obtain ⟨hg, hd⟩ := drop_cons' hd
    have ih := heldIntS_loop1 ys hx m (i + 1) (k + 1) (by omega) (by omega) (by rw [show (i + 1).toNat = i.toNat + 1 by omega]; exact hd) (by omega) (by omega)
    have hg : (rI ys)[i.toNat]? = some [.v (.int .i64 (k))] := by unfold rI; rw [List.getElem?_map, hg]; rfl
    rw [show k + ((m + 1 : Nat) : Int) = k + 1 + (m : Int) by omega]
    rw [← ih]
    clear ih hd
    exact lp V43
theorem heldIntS_ok1 (n : Nat) (k : Int) (hx : n ≤ 1048576) (hk : 0 ≤ k) (hb : k + (n : Int) ≤ 1000000000) : fnL Try.prog T1 L1 43 [.c (.d (.sl 1 (rI (mI n k)))), .c (.d (.v (.int .i64 (k))))] [] = some (.one (.c (.d (.v (.int .i64 (k + (n : Int)))))), []) := by
  have hl := mI_len n k
  have Lp := heldIntS_loop1 (mI n k) (by omega) n 0 k (by omega) (by omega) rfl hk hb
  exact fn V43 Try.func43
theorem heldIntS_nil1 (k : Int) : fnL Try.prog T1 L1 43 [.c (.d (.v (.slice none 0 0))), .c (.d (.v (.int .i64 (k))))] [] = some (.one (.c (.d (.v (.int .i64 (k))))), []) := by
  have h : loopC Try.prog T1 (fnL Try.prog T1 L1) 43 (cq Try.f43 [0, 0, 1, 0, 1]) ⟨[.one (.c (.d (.v (.slice none 0 0)))), .one (.c (.d (.v (.int .i64 (k))))), J, J, J, .one (.c (.d (.v (.int .i64 (0))))), J, J, J, J, J, J, J, J, J, J, J, J, J, J, J], hpOf [], 0, 0⟩ = some (.exit 0, ⟨[J, .one (.c (.d (.v (.int .i64 (k))))), J, J, J, J, J, J, J, J, J, J, J, J, J, J, J, J, J, J, J], hpOf [], 0, 0⟩) := by
    exact lp V43
  exact fn V43 Try.func43

theorem heldRuleS_loop1 (ys : List GRule) (hx : ys.length ≤ 1048576) : ∀ (m : Nat) (i k : Int), 0 ≤ i → i + m = ys.length → ys.drop i.toNat = mR m k → 0 ≤ k → k + 3 * (m : Int) ≤ 1000000000 →
    loopC Try.prog T1 (fnL Try.prog T1 L1) 26 (cq Try.f26 [0, 0, 1, 0, 1]) ⟨[.one (.c (.d (.sl 3 (rR ys)))), .one (.c (.d (.v (.int .i64 (k))))), J, J, J, .one (.c (.d (.v (.int .i64 (i))))), J, J, J, J, J, J, J, J, J, J, J, J, J, J, J, J, J, J, J, J, J, J, J, J, J, J, J, J, J, J, J, J, J, J], hpOf [], 0, 0⟩ = some (.exit 0, ⟨[J, .one (.c (.d (.v (.int .i64 (k + 3 * (m : Int)))))), J, J, J, J, J, J, J, J, J, J, J, J, J, J, J, J, J, J, J, J, J, J, J, J, J, J, J, J, J, J, J, J, J, J, J, J, J, J], hpOf [], 0, 0⟩)
  | 0, i, k, hi, hm, hd, hk, hb => by
    simp only [Int.natCast_zero, Int.mul_zero, Int.add_zero]
    clear hd
    exact lp V26
  | m + 1, i, k, hi, hm, hd, hk, hb => by
    obtain ⟨hg, hd⟩ := drop_cons' hd
    have ih := heldRuleS_loop1 ys hx m (i + 1) (k + 1 + 1 + 1) (by omega) (by omega) (by rw [show (i + 1).toNat = i.toNat + 1 by omega]; exact hd) (by omega) (by omega)
    have hg : (rR ys)[i.toNat]? = some [.v (.int .i64 (k)), .v (.int .i64 (k + 1)), .v (.int .i64 (k + 1 + 1))] := by unfold rR; rw [List.getElem?_map, hg]; rfl
    rw [show k + 3 * ((m + 1 : Nat) : Int) = k + 1 + 1 + 1 + 3 * (m : Int) by omega]
    rw [← ih]
    clear ih hd
    exact lp V26
theorem heldRuleS_ok1 (n : Nat) (k : Int) (hx : n ≤ 1048576) (hk : 0 ≤ k) (hb : k + 3 * (n : Int) ≤ 1000000000) : fnL Try.prog T1 L1 26 [.c (.d (.sl 3 (rR (mR n k)))), .c (.d (.v (.int .i64 (k))))] [] = some (.one (.c (.d (.v (.int .i64 (k + 3 * (n : Int)))))), []) := by
  have hl := mR_len n k
  have Lp := heldRuleS_loop1 (mR n k) (by omega) n 0 k (by omega) (by omega) rfl hk hb
  exact fn V26 Try.func26
theorem heldRuleS_nil1 (k : Int) : fnL Try.prog T1 L1 26 [.c (.d (.v (.slice none 0 0))), .c (.d (.v (.int .i64 (k))))] [] = some (.one (.c (.d (.v (.int .i64 (k))))), []) := by
  have h : loopC Try.prog T1 (fnL Try.prog T1 L1) 26 (cq Try.f26 [0, 0, 1, 0, 1]) ⟨[.one (.c (.d (.v (.slice none 0 0)))), .one (.c (.d (.v (.int .i64 (k))))), J, J, J, .one (.c (.d (.v (.int .i64 (0))))), J, J, J, J, J, J, J, J, J, J, J, J, J, J, J, J, J, J, J, J, J, J, J, J, J, J, J, J, J, J, J, J, J, J], hpOf [], 0, 0⟩ = some (.exit 0, ⟨[J, .one (.c (.d (.v (.int .i64 (k))))), J, J, J, J, J, J, J, J, J, J, J, J, J, J, J, J, J, J, J, J, J, J, J, J, J, J, J, J, J, J, J, J, J, J, J, J, J, J], hpOf [], 0, 0⟩) := by
    exact lp V26
  exact fn V26 Try.func26

theorem heldK (nl : Bool) (ks : List Int) (k : Int) (hx : ks.length ≤ 1048576) (hk : 0 ≤ k) (hb : k + (ks.length : Int) ≤ 1000000000) : fnL Try.prog T1 L1 43 [.c (.d (dK nl (mI ks.length k))), .c (.d (.v (.int .i64 (k))))] [] = some (.one (.c (.d (.v (.int .i64 (k + (ks.length : Int)))))), []) := by
  have h := heldIntS_ok1 ks.length k hx hk hb
  cases nl with
  | false => exact h
  | true =>
    cases ks with
    | cons y ys => exact h
    | nil =>
      have h0 := heldIntS_nil1 k
      simpa [mI, dK] using h0
theorem heldNodeS_loop1 (nl : Bool) (ys : List GNode) (hx : ys.length ≤ 1048576) : ∀ (xs : List GNode) (i k : Int), 0 ≤ i → i + xs.length = ys.length → ys.drop i.toNat = mNs xs k → 0 ≤ k → kNs xs k ≤ 1000000000 → (∀ x ∈ xs, x.Kids.length ≤ 1048576) →
    loopC Try.prog T1 (fnL Try.prog T1 L1) 25 (cq Try.f25 [0, 0, 1, 0, 1]) ⟨[.one (.c (.d (.sl 3 (dN nl ys)))), .one (.c (.d (.v (.int .i64 (k))))), J, J, J, .one (.c (.d (.v (.int .i64 (i))))), J, J, J, J, J, J, J, J, J, J, J, J, J, J, J, J, J, J, J, J, J, J, J, J, J, J, J, J, J, J, J, J, J, J, J], hpOf [], 0, 0⟩ = some (.exit 0, ⟨[J, .one (.c (.d (.v (.int .i64 (kNs xs k))))), J, J, J, J, J, J, J, J, J, J, J, J, J, J, J, J, J, J, J, J, J, J, J, J, J, J, J, J, J, J, J, J, J, J, J, J, J, J, J], hpOf [], 0, 0⟩)
  | [], i, k, hi, hm, hd, hk, hb, hq => by
    simp only [List.length_nil, Int.natCast_zero, Int.add_zero, kNs] at hm ⊢
    clear hd hq
    exact lp V25
  | x :: xs, i, k, hi, hm, hd, hk, hb, hq => by
    have b1 := hq x (by simp)
    have hge := kNs_ge xs (kNd x k)
    simp only [kNs] at hb ⊢
    have hk2 : kNd x k ≤ 1000000000 := by omega
    have hk3 : 0 ≤ kNd x k := by unfold kNd; omega
    rw [List.length_cons] at hm
    obtain ⟨hg, hd⟩ := drop_cons' hd
    have ih := heldNodeS_loop1 nl ys hx xs (i + 1) (kNd x k) (by omega) (by omega) (by rw [show (i + 1).toNat = i.toNat + 1 by omega]; exact hd) hk3 hb (fun y h => hq y (by simp [h]))
    have hg : (dN nl ys)[i.toNat]? = some (dNd nl (mNd x k)) := by unfold dN; rw [List.getElem?_map, hg]; rfl
    simp only [dNd, mNd] at hg
    rw [← ih]
    unfold kNd at hk2
    have h1 := heldK nl x.Kids (k + 1 + 1) b1 (by omega) (by omega)
    have t0 := markText_ok (k + 1) (by omega)
    generalize dK nl (mI x.Kids.length (k + 1 + 1)) = d at hg h1
    clear ih hd hq hb hge hk3
    simp only [kNd]
    exact lp V25
theorem heldNodeS_ok1 (nl : Bool) (xs : List GNode) (k : Int) (hx : xs.length ≤ 1048576) (hm : ∀ x ∈ xs, x.Kids.length ≤ 1048576) (hk : 0 ≤ k) (hb : kNs xs k ≤ 1000000000) : fnL Try.prog T1 L1 25 [.c (.d (.sl 3 (dN nl (mNs xs k)))), .c (.d (.v (.int .i64 (k))))] [] = some (.one (.c (.d (.v (.int .i64 (kNs xs k))))), []) := by
  have hl := mNs_len xs k
  have Lp := heldNodeS_loop1 nl (mNs xs k) (by rw [hl]; exact hx) xs 0 k (by omega) (by omega) rfl hk hb hm
  clear hm
  exact fn V25 Try.func25
theorem heldNodeS_nil1 (k : Int) : fnL Try.prog T1 L1 25 [.c (.d (.v (.slice none 0 0))), .c (.d (.v (.int .i64 (k))))] [] = some (.one (.c (.d (.v (.int .i64 (k))))), []) := by
  have h : loopC Try.prog T1 (fnL Try.prog T1 L1) 25 (cq Try.f25 [0, 0, 1, 0, 1]) ⟨[.one (.c (.d (.v (.slice none 0 0)))), .one (.c (.d (.v (.int .i64 (k))))), J, J, J, .one (.c (.d (.v (.int .i64 (0))))), J, J, J, J, J, J, J, J, J, J, J, J, J, J, J, J, J, J, J, J, J, J, J, J, J, J, J, J, J, J, J, J, J, J, J], hpOf [], 0, 0⟩ = some (.exit 0, ⟨[J, .one (.c (.d (.v (.int .i64 (k))))), J, J, J, J, J, J, J, J, J, J, J, J, J, J, J, J, J, J, J, J, J, J, J, J, J, J, J, J, J, J, J, J, J, J, J, J, J, J, J], hpOf [], 0, 0⟩) := by
    exact lp V25
  exact fn V25 Try.func25
theorem heldProgram_ok1 (a c : D) (k1 k2 : Int) (h0 : 0 ≤ k1) (h00 : 0 ≤ k2) (h1 : fnL Try.prog T1 L1 25 [.c (.d a), .c (.d (.v (.int .i64 (1))))] [] = some (.one (.c (.d (.v (.int .i64 (k1))))), [])) (h2 : fnL Try.prog T1 L1 26 [.c (.d c), .c (.d (.v (.int .i64 (k1))))] [] = some (.one (.c (.d (.v (.int .i64 (k2))))), [])) : fnL Try.prog T1 L1 10 [.agg [.d a, .d c], .c (.d (.v (.int .i64 (1))))] [] = some (.one (.c (.d (.v (.int .i64 (k2))))), []) := by
  exact fn V10 Try.func10
end
end Go.Vsi
