/- What the functions of the program, of the reference and of the law do (a part of it). -/
import Derived.Test.YtgphmleklcicaaaQ1
namespace Go.Vsi
open Go.Proofs
noncomputable section
set_option maxRecDepth 100000
set_option maxHeartbeats 4000000
set_option linter.unusedSimpArgs false
set_option linter.unusedVariables false
attribute [local go_sem ↓] IX9
def mkd : Nat → Int → List UInt8 → List UInt8
  | 0, _, o => o
  | f + 1, k, o => if k ≤ 0 then o else mkd f (k.tdiv 10) (UInt8.ofNat (48 + k.tmod 10).toNat :: o)
theorem mkd_len : ∀ (f : Nat) (k : Int) (o : List UInt8), (mkd f k o).length ≤ f + o.length
  | 0, _, _ => by simp [mkd]
  | f + 1, k, o => by
    unfold mkd
    split
    · omega
    · have := mkd_len f (k.tdiv 10) (UInt8.ofNat (48 + k.tmod 10).toNat :: o)
      simp at this
      omega
theorem div10 (k : Int) (h : 0 < k) : 0 ≤ k.tdiv 10 ∧ k.tdiv 10 * 10 ≤ k ∧ 0 ≤ k.tmod 10 ∧ k.tmod 10 < 10 := by
  rw [Int.tdiv_eq_ediv_of_nonneg (by omega), Int.tmod_eq_emod_of_nonneg (by omega)]
  omega
theorem markText_loop : ∀ (f : Nat) (k : Int) (o : List UInt8), 0 ≤ k → k < 10 ^ f → f ≤ 18 → o.length + f ≤ 100 →
    loopC Try.prog T1 (fnL Try.prog T1 L1) 41 (cq Try.f41 [0, 0, 0, 1, 1, 1]) ⟨[.one (.c (.d (.v (.int .i64 (k))))), J, J, .one (.c (.d (.v (.string (B (o)))))), J, J, J, J, J, J, J, J, J, J, J, J, J, J, J, J], hpOf [], 0, 0⟩ = some (.exit 0, ⟨[J, J, J, .one (.c (.d (.v (.string (B (mkd f k o)))))), J, J, J, J, J, J, J, J, J, J, J, J, J, J, J, J], hpOf [], 0, 0⟩)
  | 0, k, o, h0, h1, hf, ho => by
    have hk : k = 0 := by simp at h1; omega
    subst hk
    simp only [mkd]
    exact lp V41
  | f + 1, k, o, h0, h1, hf, ho => by
    by_cases hk : k = 0
    · subst hk
      simp only [mkd, Int.le_refl, if_true]
      exact lp V41
    · obtain ⟨d1, d2, d3, d4⟩ := div10 k (by omega)
      have hp : k < 10 * 10 ^ f := by rw [Int.pow_succ] at h1; omega
      have hmax : (10 : Int) ^ f ≤ 10 ^ 17 := by
        have : f ≤ 17 := by omega
        exact_mod_cast Nat.pow_le_pow_right (by omega) this
      have ih := markText_loop f (k.tdiv 10) (UInt8.ofNat (48 + k.tmod 10).toNat :: o) d1 (by omega) (by omega) (by simp; omega)
      have hn : (10 : Int) ≠ 0 := by decide
      have e : mkd (f + 1) k o = mkd f (k.tdiv 10) (UInt8.ofNat (48 + k.tmod 10).toNat :: o) := by
        rw [mkd, if_neg (by omega)]
      rw [e]
      clear e hp
      generalize hq : k.tdiv 10 = q at ih d1 d2
      generalize hr : k.tmod 10 = r at ih d3 d4
      have hb : k ≤ 1000000000000000000 := by omega
      clear hmax h1
      exact lp V41
def mT (k : Int) : List UInt8 := if k ≤ 0 then [109, 48] else 109 :: mkd 18 k []
theorem markText_ok (k : Int) (h : k ≤ 1000000000) : fnL Try.prog T1 L1 41 [.c (.d (.v (.int .i64 (k))))] [] = some (.one (.c (.d (.v (.string (B (mT k)))))), []) := by
  unfold mT
  by_cases hk : k ≤ 0
  · rw [if_pos hk]
    exact fn V41 Try.func41
  · rw [if_neg hk]
    have L := markText_loop 18 k [] (by omega) (by omega) (by omega) (by simp)
    have hl := mkd_len 18 k []
    generalize mkd 18 k [] = s at L hl
    simp at hl
    exact fn V41 Try.func41

def mI : Nat → Int → List Int
  | 0, _ => []
  | n + 1, k => k :: mI n (k + 1)
def mR : Nat → Int → List GRule
  | 0, _ => []
  | n + 1, k => ⟨k, k + 1, k + 1 + 1⟩ :: mR n (k + 1 + 1 + 1)
theorem mI_len : ∀ (n : Nat) (k : Int), (mI n k).length = n
  | 0, _ => rfl
  | n + 1, k => by simp [mI, mI_len n]
theorem mR_len : ∀ (n : Nat) (k : Int), (mR n k).length = n
  | 0, _ => rfl
  | n + 1, k => by simp [mR, mR_len n]
attribute [go_sem] mI_len mR_len
def mNd (x : GNode) (k : Int) : GNode := ⟨k, mT (k + 1), mI x.Kids.length (k + 1 + 1)⟩
def kNd (x : GNode) (k : Int) : Int := k + 1 + 1 + x.Kids.length
def mNs : List GNode → Int → List GNode
  | [], _ => []
  | x :: xs, k => mNd x k :: mNs xs (kNd x k)
def kNs : List GNode → Int → Int
  | [], k => k
  | x :: xs, k => kNs xs (kNd x k)
theorem mNs_len : ∀ (xs : List GNode) (k : Int), (mNs xs k).length = xs.length
  | [], _ => rfl
  | x :: xs, k => by simp [mNs, mNs_len xs]
theorem kNs_ge : ∀ (xs : List GNode) (k : Int), k ≤ kNs xs k
  | [], k => Int.le_refl k
  | x :: xs, k => Int.le_trans (by unfold kNd; omega) (kNs_ge xs _)

theorem markIntS_loop1 : ∀ (xs : List Int) (A : List (List D)) (i k : Int) (n : Nat), i = A.length → n = A.length + xs.length → n ≤ 1048576 → 0 ≤ k → k + (xs.length : Int) ≤ 1000000000 →
    loopC Try.prog T1 (fnL Try.prog T1 L1) 42 (cq Try.f42 [0, 0, 1, 0, 1]) ⟨[.one (.c (.arr 0 0 n)), .one (.c (.d (.v (.int .i64 (k))))), J, J, J, .one (.c (.d (.v (.int .i64 (i))))), J, J, J, J, J, J, J, J, J, J, J, J, J], hpOf [some (.arr 1 (A ++ rI xs))], 1, 1⟩ = some (.exit 0, ⟨[J, .one (.c (.d (.v (.int .i64 (k + (xs.length : Int)))))), J, J, J, J, J, J, J, J, J, J, J, J, J, J, J, J, J], hpOf [some (.arr 1 (A ++ rI (mI xs.length k)))], 1, 1⟩)
  | [], A, i, k, n, hi, hn, hx, hk, hb => by
    simp only [List.length_nil, Int.natCast_zero, Int.mul_zero, Int.add_zero, mI] at hn hb ⊢
    subst hi hn
    exact lp V42
  | x :: xs, A, i, k, n, hi, hn, hx, hk, hb => by
    have ih := markIntS_loop1 xs (A ++ [[.v (.int .i64 (k))]]) (i + 1) (k + 1) n (by simp; omega) (by simp at hn ⊢; omega) hx (by omega) (by simp at hb; omega)
    have fG : ∀ r : List D, (A ++ r :: rI xs)[i.toNat]? = some r := fun r => mid_get A r _ _ (by omega)
    have fS : ∀ r r' : List D, (A ++ r :: rI xs).set i.toNat r' = A ++ r' :: rI xs := fun r r' => mid_set A r r' _ _ (by omega)
    simp only [List.append_assoc, List.singleton_append, List.length_cons] at ih hn hb ⊢
    rw [show k + ((xs.length + 1 : Nat) : Int) = k + 1 + (xs.length : Int) by omega]
    simp only [mI, rI_cons]
    rw [← ih]
    have q1 : 0 ≤ i := by omega
    have q2 : i < n := by omega
    clear ih hi hn
    generalize rI xs = R at fG fS ⊢
    exact lp V42
theorem markIntS_ok1 (xs : List Int) (k : Int) (hx : xs.length ≤ 1048576) (hk : 0 ≤ k) (hb : k + (xs.length : Int) ≤ 1000000000) : fnL Try.prog T1 L1 42 [.c (.arr 0 0 xs.length), .c (.d (.v (.int .i64 (k))))] [some (.arr 1 (rI xs))] = some (.one (.c (.d (.v (.int .i64 (k + (xs.length : Int)))))), [some (.arr 1 (rI (mI xs.length k)))]) := by
  have Lp := markIntS_loop1 xs [] 0 k xs.length rfl (by simp) hx hk hb
  simp only [List.nil_append] at Lp
  exact fn V42 Try.func42
theorem markIntS_nil1 (k : Int) : fnL Try.prog T1 L1 42 [.c (.d (.v (.slice none 0 0))), .c (.d (.v (.int .i64 (k))))] [] = some (.one (.c (.d (.v (.int .i64 (k))))), []) := by
  have h : loopC Try.prog T1 (fnL Try.prog T1 L1) 42 (cq Try.f42 [0, 0, 1, 0, 1]) ⟨[.one (.c (.d (.v (.slice none 0 0)))), .one (.c (.d (.v (.int .i64 (k))))), J, J, J, .one (.c (.d (.v (.int .i64 (0))))), J, J, J, J, J, J, J, J, J, J, J, J, J], hpOf [], 0, 0⟩ = some (.exit 0, ⟨[J, .one (.c (.d (.v (.int .i64 (k))))), J, J, J, J, J, J, J, J, J, J, J, J, J, J, J, J, J], hpOf [], 0, 0⟩) := by
    exact lp V42
  exact fn V42 Try.func42

theorem markRuleS_loop1 : ∀ (xs : List GRule) (A : List (List D)) (i k : Int) (n : Nat), i = A.length → n = A.length + xs.length → n ≤ 1048576 → 0 ≤ k → k + 3 * (xs.length : Int) ≤ 1000000000 →
    loopC Try.prog T1 (fnL Try.prog T1 L1) 24 (cq Try.f24 [0, 0, 1, 0, 1]) ⟨[.one (.c (.arr 0 0 n)), .one (.c (.d (.v (.int .i64 (k))))), J, J, J, .one (.c (.d (.v (.int .i64 (i))))), J, J, J, J, J, J, J, J, J, J, J, J, J, J, J, J, J, J, J, J, J, J, J, J, J, J, J, J], hpOf [some (.arr 3 (A ++ rR xs))], 1, 1⟩ = some (.exit 0, ⟨[J, .one (.c (.d (.v (.int .i64 (k + 3 * (xs.length : Int)))))), J, J, J, J, J, J, J, J, J, J, J, J, J, J, J, J, J, J, J, J, J, J, J, J, J, J, J, J, J, J, J, J], hpOf [some (.arr 3 (A ++ rR (mR xs.length k)))], 1, 1⟩)
  | [], A, i, k, n, hi, hn, hx, hk, hb => by
    simp only [List.length_nil, Int.natCast_zero, Int.mul_zero, Int.add_zero, mR] at hn hb ⊢
    subst hi hn
    exact lp V24
  | x :: xs, A, i, k, n, hi, hn, hx, hk, hb => by
    have ih := markRuleS_loop1 xs (A ++ [[.v (.int .i64 (k)), .v (.int .i64 (k + 1)), .v (.int .i64 (k + 1 + 1))]]) (i + 1) (k + 1 + 1 + 1) n (by simp; omega) (by simp at hn ⊢; omega) hx (by omega) (by simp at hb; omega)
    have fG : ∀ r : List D, (A ++ r :: rR xs)[i.toNat]? = some r := fun r => mid_get A r _ _ (by omega)
    have fS : ∀ r r' : List D, (A ++ r :: rR xs).set i.toNat r' = A ++ r' :: rR xs := fun r r' => mid_set A r r' _ _ (by omega)
    simp only [List.append_assoc, List.singleton_append, List.length_cons] at ih hn hb ⊢
    rw [show k + 3 * ((xs.length + 1 : Nat) : Int) = k + 1 + 1 + 1 + 3 * (xs.length : Int) by omega]
    simp only [mR, rR_cons, GRule.enc]
    rw [← ih]
    have q1 : 0 ≤ i := by omega
    have q2 : i < n := by omega
    clear ih hi hn
    generalize rR xs = R at fG fS ⊢
    exact lp V24
theorem markRuleS_ok1 (xs : List GRule) (k : Int) (hx : xs.length ≤ 1048576) (hk : 0 ≤ k) (hb : k + 3 * (xs.length : Int) ≤ 1000000000) : fnL Try.prog T1 L1 24 [.c (.arr 0 0 xs.length), .c (.d (.v (.int .i64 (k))))] [some (.arr 3 (rR xs))] = some (.one (.c (.d (.v (.int .i64 (k + 3 * (xs.length : Int)))))), [some (.arr 3 (rR (mR xs.length k)))]) := by
  have Lp := markRuleS_loop1 xs [] 0 k xs.length rfl (by simp) hx hk hb
  simp only [List.nil_append] at Lp
  exact fn V24 Try.func24
theorem markRuleS_nil1 (k : Int) : fnL Try.prog T1 L1 24 [.c (.d (.v (.slice none 0 0))), .c (.d (.v (.int .i64 (k))))] [] = some (.one (.c (.d (.v (.int .i64 (k))))), []) := by
  have h : loopC Try.prog T1 (fnL Try.prog T1 L1) 24 (cq Try.f24 [0, 0, 1, 0, 1]) ⟨[.one (.c (.d (.v (.slice none 0 0)))), .one (.c (.d (.v (.int .i64 (k))))), J, J, J, .one (.c (.d (.v (.int .i64 (0))))), J, J, J, J, J, J, J, J, J, J, J, J, J, J, J, J, J, J, J, J, J, J, J, J, J, J, J, J], hpOf [], 0, 0⟩ = some (.exit 0, ⟨[J, .one (.c (.d (.v (.int .i64 (k))))), J, J, J, J, J, J, J, J, J, J, J, J, J, J, J, J, J, J, J, J, J, J, J, J, J, J, J, J, J, J, J, J], hpOf [], 0, 0⟩) := by
    exact lp V24
  exact fn V24 Try.func24

theorem markNodeS_loop1 (nl : Bool) : ∀ (xs : List GNode) (A : List (List O)) (i k : Int) (n : Nat), i = A.length → n = A.length + xs.length → n ≤ 1048576 → 0 ≤ k → kNs xs k ≤ 1000000000 → (∀ x ∈ xs, x.Kids.length ≤ 1048576) →
    loopC Try.prog T1 (fnL Try.prog T1 L1) 23 (cq Try.f23 [0, 0, 1, 0, 1]) ⟨[.one (.c (.arr 0 0 n)), .one (.c (.d (.v (.int .i64 (k))))), J, J, J, .one (.c (.d (.v (.int .i64 (i))))), J, J, J, J, J, J, J, J, J, J, J, J, J, J, J, J, J, J, J, J, J, J, J, J, J, J, J, J, J], hpOf [some (.nar 3 (A ++ oN nl xs) [])], 1, 1⟩ = some (.exit 0, ⟨[J, .one (.c (.d (.v (.int .i64 (kNs xs k))))), J, J, J, J, J, J, J, J, J, J, J, J, J, J, J, J, J, J, J, J, J, J, J, J, J, J, J, J, J, J, J, J, J], hpOf [some (.nar 3 (A ++ oN nl (mNs xs k)) [])], 1, 1⟩)
  | [], A, i, k, n, hi, hn, hx, hk, hb, hm => by
    simp only [List.length_nil, Int.natCast_zero, Int.mul_zero, Int.add_zero, mNs, kNs] at hn hb ⊢
    subst hi hn
    clear hm
    exact lph V23
  | x :: xs, A, i, k, n, hi, hn, hx, hk, hb, hm => by
    have b1 := hm x (by simp)
    have hge := kNs_ge xs (kNd x k)
    rw [kNs] at hb
    have ih := markNodeS_loop1 nl xs (A ++ [oNd nl (mNd x k)]) (i + 1) (kNd x k) n (by simp; omega) (by simp at hn ⊢; omega) hx (by unfold kNd; omega) hb (fun y h => hm y (by simp [h]))
    have fG : ∀ r : List O, (A ++ r :: oN nl xs)[i.toNat]? = some r := fun r => mid_get A r _ _ (by omega)
    have fS : ∀ r r' : List O, (A ++ r :: oN nl xs).set i.toNat r' = A ++ r' :: oN nl xs := fun r r' => mid_set A r r' _ _ (by omega)
    simp only [List.append_assoc, List.singleton_append, List.length_cons] at ih hn ⊢
    simp only [mNs, kNs, oN_cons]
    rw [← ih]
    have hk2 : kNd x k ≤ 1000000000 := by omega
    unfold kNd at hk2
    have h1 := markIntS_ok1 x.Kids (k + 1 + 1) b1 (by omega) (by omega)
    have h0 := markIntS_nil1 (k + 1 + 1)
    have t0 := markText_ok (k + 1) (by omega)
    have q1 : 0 ≤ i := by omega
    have q2 : i < n := by omega
    clear ih hi hn hm hb hge
    generalize oN nl xs = R at fG fS ⊢
    cases hks : x.Kids with
    | nil =>
      rw [hks] at h1
      simp only [oNd, mNd, kNd, hks, List.length_nil, Int.natCast_zero, Int.add_zero, mI, rI_nil] at h1 ⊢
      cases nl with
      | true =>
        clear h1
        simp only [oK]
        exact lph V23
      | false =>
        simp only [oK, rI_nil]
        exact lph V23
    | cons y ys =>
      have e1 : ∀ ks : List Int, ks ≠ [] → oK nl ks = .own 1 (rI ks) := fun ks h => by cases nl <;> cases ks <;> first | rfl | exact absurd rfl h
      have e2 := e1 x.Kids (by rw [hks]; simp)
      have e3 := e1 (mI x.Kids.length (k + 1 + 1)) (by rw [hks]; simp [mI])
      simp only [oNd, mNd, kNd, e2, e3]
      clear e1 e2 e3 hks h0
      exact lph V23
theorem markNodeS_ok1 (nl : Bool) (xs : List GNode) (k : Int) (hx : xs.length ≤ 1048576) (hm : ∀ x ∈ xs, x.Kids.length ≤ 1048576) (hk : 0 ≤ k) (hb : kNs xs k ≤ 1000000000) : fnL Try.prog T1 L1 23 [.c (.arr 0 0 xs.length), .c (.d (.v (.int .i64 (k))))] [some (.nar 3 (oN nl xs) [])] = some (.one (.c (.d (.v (.int .i64 (kNs xs k))))), [some (.nar 3 (oN nl (mNs xs k)) [])]) := by
  have Lp := markNodeS_loop1 nl xs [] 0 k xs.length rfl (by simp) hx hk hb hm
  simp only [List.nil_append] at Lp
  clear hm
  exact fnh V23 Try.func23
theorem markNodeS_nil1 (k : Int) : fnL Try.prog T1 L1 23 [.c (.d (.v (.slice none 0 0))), .c (.d (.v (.int .i64 (k))))] [] = some (.one (.c (.d (.v (.int .i64 (k))))), []) := by
  have h : loopC Try.prog T1 (fnL Try.prog T1 L1) 23 (cq Try.f23 [0, 0, 1, 0, 1]) ⟨[.one (.c (.d (.v (.slice none 0 0)))), .one (.c (.d (.v (.int .i64 (k))))), J, J, J, .one (.c (.d (.v (.int .i64 (0))))), J, J, J, J, J, J, J, J, J, J, J, J, J, J, J, J, J, J, J, J, J, J, J, J, J, J, J, J, J], hpOf [], 0, 0⟩ = some (.exit 0, ⟨[J, .one (.c (.d (.v (.int .i64 (k))))), J, J, J, J, J, J, J, J, J, J, J, J, J, J, J, J, J, J, J, J, J, J, J, J, J, J, J, J, J, J, J, J, J], hpOf [], 0, 0⟩) := by
    exact lph V23
  exact fnh V23 Try.func23

theorem markProgram_00 (nl : Bool) (N : List GNode) (R : List GRule) (hN : N = []) (hR : R = []) (h1 : N.length ≤ 1048576) (h2 : R.length ≤ 1048576) (hm : ∀ x ∈ N, x.Kids.length ≤ 1048576) (hb : kNs N 1 + 3 * (R.length : Int) ≤ 1000000000) : fnL Try.prog T1 L1 9 [.agg [.d (.v (.slice none 0 0)), .d (.v (.slice none 0 0))], .c (.d (.v (.int .i64 (1))))] [] = some (.one (.c (.d (.v (.int .i64 (kNs N 1 + 3 * (R.length : Int)))))), []) := by
  subst hN
  subst hR
  have m1 := markNodeS_nil1 1
  have m2 := markRuleS_nil1 1
  clear hm
  simp only [kNs]
  simp only [List.length_nil, Int.natCast_zero, Int.mul_zero, Int.add_zero]
  exact fn V9 Try.func9

theorem markProgram_01 (nl : Bool) (N : List GNode) (R : List GRule) (hN : N = []) (h1 : N.length ≤ 1048576) (h2 : R.length ≤ 1048576) (hm : ∀ x ∈ N, x.Kids.length ≤ 1048576) (hb : kNs N 1 + 3 * (R.length : Int) ≤ 1000000000) : fnL Try.prog T1 L1 9 [.agg [.d (.v (.slice none 0 0)), .arr 0 0 R.length], .c (.d (.v (.int .i64 (1))))] [some (.arr 3 (rR R))] = some (.one (.c (.d (.v (.int .i64 (kNs N 1 + 3 * (R.length : Int)))))), [some (.arr 3 (rR (mR R.length (kNs N 1))))]) := by
  subst hN
  have m1 := markNodeS_nil1 1
  have m2 := markRuleS_ok1 R 1 h2 (by omega) hb
  clear hm
  simp only [kNs]
  exact fn V9 Try.func9

theorem markProgram_10 (nl : Bool) (N : List GNode) (R : List GRule) (hR : R = []) (h1 : N.length ≤ 1048576) (h2 : R.length ≤ 1048576) (hm : ∀ x ∈ N, x.Kids.length ≤ 1048576) (hb : kNs N 1 + 3 * (R.length : Int) ≤ 1000000000) : fnL Try.prog T1 L1 9 [.agg [.arr 0 0 N.length, .d (.v (.slice none 0 0))], .c (.d (.v (.int .i64 (1))))] [some (.nar 3 (oN nl N) [])] = some (.one (.c (.d (.v (.int .i64 (kNs N 1 + 3 * (R.length : Int)))))), [some (.nar 3 (oN nl (mNs N 1)) [])]) := by
  subst hR
  have hg := kNs_ge N 1
  have m1 := markNodeS_ok1 nl N 1 h1 hm (by omega) (by omega)
  have m2 := markRuleS_nil1 (kNs N 1)
  clear hm
  generalize kNs N 1 = q at m1 m2 ⊢
  simp only [List.length_nil, Int.natCast_zero, Int.mul_zero, Int.add_zero]
  exact fn V9 Try.func9

theorem markProgram_11 (nl : Bool) (N : List GNode) (R : List GRule) (h1 : N.length ≤ 1048576) (h2 : R.length ≤ 1048576) (hm : ∀ x ∈ N, x.Kids.length ≤ 1048576) (hb : kNs N 1 + 3 * (R.length : Int) ≤ 1000000000) : fnL Try.prog T1 L1 9 [.agg [.arr 0 0 N.length, .arr 1 0 R.length], .c (.d (.v (.int .i64 (1))))] [some (.nar 3 (oN nl N) []), some (.arr 3 (rR R))] = some (.one (.c (.d (.v (.int .i64 (kNs N 1 + 3 * (R.length : Int)))))), [some (.nar 3 (oN nl (mNs N 1)) []), some (.arr 3 (rR (mR R.length (kNs N 1))))]) := by
  have hg := kNs_ge N 1
  have m1 := markNodeS_ok1 nl N 1 h1 hm (by omega) (by omega)
  have m2 := markRuleS_ok1 R (kNs N 1) h2 (by omega) hb
  clear hm
  generalize kNs N 1 = q at m1 m2 ⊢
  exact fn V9 Try.func9
end
end Go.Vsi
