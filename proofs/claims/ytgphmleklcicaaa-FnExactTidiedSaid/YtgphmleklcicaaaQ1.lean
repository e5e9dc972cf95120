/- What the functions of the program, of the reference and of the law do (a part of it). -/
import Derived.Test.YtgphmleklcicaaaPU
import Derived.Test.YtgphmleklcicaaaP5
namespace Go.Vsi
open Go.Proofs
noncomputable section
set_option maxRecDepth 100000
set_option maxHeartbeats 4000000
set_option linter.unusedSimpArgs false
set_option linter.unusedVariables false
attribute [local go_sem ↓] IX9
theorem BL (s : List UInt8) : (B s).data.toList = s := rfl
/-- What the first table's functions do is taken as told. -/
def L1 : Call := fun f args bs => match Nat.beq f 4 || Nat.beq f 18 || Nat.beq f 14 || Nat.beq f 20 || Nat.beq f 15 with
  | true => fnL Try.prog T L0 f args bs
  | false => none
theorem mid_get {α : Type} (A : List α) (x : α) (B : List α) (n : Nat) (h : n = A.length) : (A ++ x :: B)[n]? = some x := by subst h; simp
theorem mid_set {α : Type} (A : List α) (x y : α) (B : List α) (n : Nat) (h : n = A.length) : (A ++ x :: B).set n y = A ++ y :: B := by subst h; simp
theorem set_same {α : Type} (l : List α) (i : Nat) (x : α) (h : l[i]? = some x) : l.set i x = l := by
  apply List.ext_getElem?
  intro j
  rw [List.getElem?_set]
  split
  · rename_i e
    subst e
    rw [if_pos (List.getElem?_eq_some_iff.1 h).1, h]
  · rfl
theorem rI_len' (xs : List Int) : (rI xs).length = xs.length := by simp [rI]
theorem rI_all' (xs : List Int) : (rI xs).all (fun r => r.length == 1) = true := by simp [rI]
theorem rR_all' (xs : List GRule) : (rR xs).all (fun r => r.length == 3) = true := by simp [rR, GRule.enc]
theorem rI_fresh (xs : List Int) : (rI xs).all (fun r => r.all plainD) = true := by simp [rI, plainD]
theorem rR_fresh (xs : List GRule) : (rR xs).all (fun r => r.all plainD) = true := by simp [rR, GRule.enc, plainD]
theorem rI_tk (xs : List Int) : (rI xs).take xs.length = rI xs := List.take_of_length_le (by simp [rI])
theorem rR_tk (xs : List GRule) : (rR xs).take xs.length = rR xs := List.take_of_length_le (by simp [rR])
theorem rI_get' (xs : List Int) (i : Nat) (h : i < xs.length) : (rI xs)[i]? = some [.v (.int .i64 (xs[i]))] := map_get xs _ i h
theorem rI_nil : rI [] = [] := rfl
theorem rR_nil : rR [] = [] := rfl
theorem rN_nil : rN [] = [] := rfl
theorem rI_cons (x : Int) (xs : List Int) : rI (x :: xs) = [.v (.int .i64 (x))] :: rI xs := rfl
theorem rR_cons (x : GRule) (xs : List GRule) : rR (x :: xs) = x.enc :: rR xs := rfl
theorem encNd (x : GNode) : x.enc = [.v (.int .i64 (x.Op)), .v (.string (B (x.Text))), .sl 1 (rI x.Kids)] := rfl
/-! Rows of nodes that own their kids (nl: no kids are told as nil) -/
def oK (nl : Bool) (ks : List Int) : O := match nl, ks with | true, [] => .d (.v (.slice none 0 0)) | _, ks => .own 1 (rI ks)
def dK (nl : Bool) (ks : List Int) : D := match nl, ks with | true, [] => .v (.slice none 0 0) | _, ks => .sl 1 (rI ks)
def oNd (nl : Bool) (x : GNode) : List O := [.d (.v (.int .i64 (x.Op))), .d (.v (.string (B (x.Text)))), oK nl x.Kids]
def dNd (nl : Bool) (x : GNode) : List D := [.v (.int .i64 (x.Op)), .v (.string (B (x.Text))), dK nl x.Kids]
def oN (nl : Bool) (xs : List GNode) : List (List O) := xs.map (oNd nl)
def dN (nl : Bool) (xs : List GNode) : List (List D) := xs.map (dNd nl)
theorem oK_flat (nl : Bool) (ks : List Int) : (oK nl ks).flat = dK nl ks := by cases nl <;> cases ks <;> rfl
theorem oN_len (nl : Bool) (xs : List GNode) : (oN nl xs).length = xs.length := by simp [oN]
theorem dN_len (nl : Bool) (xs : List GNode) : (dN nl xs).length = xs.length := by simp [dN]
theorem oN_tk (nl : Bool) (xs : List GNode) : (oN nl xs).take xs.length = oN nl xs := List.take_of_length_le (by simp [oN])
theorem dN_false (xs : List GNode) : dN false xs = rN xs := by
  unfold dN rN
  congr 1
theorem oN_flat (nl : Bool) (xs : List GNode) : (oN nl xs).map (List.map O.flat) = dN nl xs := by
  simp only [oN, dN, List.map_map]
  congr 1
  funext x
  show [_, _, (oK nl x.Kids).flat] = _
  rw [oK_flat]
  rfl
theorem oN_fresh (nl : Bool) (xs : List GNode) : (oN nl xs).all (fun r => r.all plainO) = true := by
  simp only [oN, List.all_map, List.all_eq_true]
  intro x _
  cases nl <;> cases hk : x.Kids <;> simp [oNd, oK, plainO, plainD, rI, hk]
theorem oN_nil (nl : Bool) : oN nl [] = [] := rfl
theorem dN_nil (nl : Bool) : dN nl [] = [] := rfl
theorem oN_cons (nl : Bool) (x : GNode) (xs : List GNode) : oN nl (x :: xs) = oNd nl x :: oN nl xs := rfl
theorem oN_get (nl : Bool) (xs : List GNode) (i : Nat) (h : i < xs.length) : (oN nl xs)[i]? = some (oNd nl xs[i]) := map_get xs _ i h
theorem dN_get (nl : Bool) (xs : List GNode) (i : Nat) (h : i < xs.length) : (dN nl xs)[i]? = some (dNd nl xs[i]) := map_get xs _ i h
attribute [go_sem] rN_len rR_len rI_len' rI_all' rR_all' rI_fresh rR_fresh rI_nil rR_nil rN_nil oN_len dN_len oN_fresh oN_nil dN_nil
def fil' {α : Type} (rows : List α) (z : α) (i : Int) : List α := rows.take i.toNat ++ List.replicate (rows.length - i.toNat) z
theorem fil_get' {α : Type} (xs : List α) (z : α) (i : Int) (h0 : 0 ≤ i) (h : i < xs.length) : (fil' xs z i)[i.toNat]? = some z := fill_get xs z i.toNat (by omega)
theorem fil_set' {α : Type} (xs : List α) (z x : α) (i : Int) (h0 : 0 ≤ i) (h : i < xs.length) (hx : xs[i.toNat]? = some x) : (fil' xs z i).set i.toNat x = fil' xs z (i + 1) := by
  obtain ⟨hl, rfl⟩ := List.getElem?_eq_some_iff.1 hx
  unfold fil'
  rw [fill_set xs z i.toNat hl, show (i + 1).toNat = i.toNat + 1 by omega]
theorem fil_zero' {α : Type} (xs : List α) (z : α) : fil' xs z 0 = List.replicate xs.length z := by simp [fil']
theorem fil_end' {α : Type} (xs : List α) (z : α) (i : Int) (h : i = xs.length) : fil' xs z i = xs := by subst h; simp [fil']

theorem toIntS_loop1 (xs : List Int) (hx : xs.length ≤ 1048576) : ∀ (m : Nat) (i : Int), 0 ≤ i → i + m = xs.length →
    loopC Try.prog T1 (fnL Try.prog T1 L1) 47 (cq Try.f47 [0, 0, 1, 0, 1, 1]) ⟨[.one (.c (.d (.sl 1 (rI xs)))), J, J, .one (.c (.arr 0 0 xs.length)), .one (.c (.d (.v (.int .i64 (i))))), J, J, J, J, J, J, J, J, J, J, J, J, J, J, J, J, J], hpOf [some (.arr 1 (fil' (rI xs) [.v (.int .i64 (0))] i))], 1, 0⟩ = some (.exit 0, ⟨[J, J, J, .one (.c (.arr 0 0 xs.length)), J, J, J, J, J, J, J, J, J, J, J, J, J, J, J, J, J, J], hpOf [some (.arr 1 (rI xs))], 1, 0⟩)
  | 0, i, h0, hm => by
    rw [fil_end' (rI xs) _ i (by simp [rI]; omega)]
    exact lp V47
  | m + 1, i, h0, hm => by
    have hil : i.toNat < xs.length := by omega
    have ih := toIntS_loop1 xs hx m (i + 1) (by omega) (by omega)
    have hg := rI_get' xs i.toNat hil
    have f1 := fil_get' (rI xs) [.v (.int .i64 (0))] i h0 (by simp [rI]; omega)
    have f2 := fil_set' (rI xs) [.v (.int .i64 (0))] _ i h0 (by simp [rI]; omega) hg
    generalize xs[i.toNat] = x at hg f2
    rw [← ih]
    clear ih
    exact lp V47
theorem toIntS_ok1 (xs : List Int) (hx : xs.length ≤ 1048576) : fnL Try.prog T1 L1 47 [.c (.d (.sl 1 (rI xs)))] [] = some (.one (.c (.arr 0 0 xs.length)), [some (.arr 1 (rI xs))]) := by
  have Lp := toIntS_loop1 xs hx xs.length 0 (by omega) (by omega)
  rw [fil_zero'] at Lp
  have hl : (rI xs).length = xs.length := by simp [rI]
  rw [hl] at Lp
  have hroom : room = 70368744177664 := rfl
  exact fn V47 Try.func47

theorem toRule_ok1 (x : GRule) : fnL Try.prog T1 L1 32 [.agg (x.enc.map .d)] [] = some (.one (.agg (x.enc.map .d)), []) := by
  simp only [GRule.enc, List.map_cons, List.map_nil]
  exact fn V32 Try.func32

theorem toRuleS_loop1 (xs : List GRule) (hx : xs.length ≤ 1048576) : ∀ (m : Nat) (i : Int), 0 ≤ i → i + m = xs.length →
    loopC Try.prog T1 (fnL Try.prog T1 L1) 17 (cq Try.f17 [0, 0, 1, 0, 1, 1]) ⟨[.one (.c (.d (.sl 3 (rR xs)))), J, J, .one (.c (.arr 0 0 xs.length)), .one (.c (.d (.v (.int .i64 (i))))), J, J, J, J, J, J, J, J, J, J, J, J, J, J, J, J, J, J], hpOf [some (.arr 3 (fil' (rR xs) [.v (.int .i64 (0)), .v (.int .i64 (0)), .v (.int .i64 (0))] i))], 1, 0⟩ = some (.exit 0, ⟨[J, J, J, .one (.c (.arr 0 0 xs.length)), J, J, J, J, J, J, J, J, J, J, J, J, J, J, J, J, J, J, J], hpOf [some (.arr 3 (rR xs))], 1, 0⟩)
  | 0, i, h0, hm => by
    rw [fil_end' (rR xs) _ i (by simp [rR]; omega)]
    exact lp V17
  | m + 1, i, h0, hm => by
    have hil : i.toNat < xs.length := by omega
    have ih := toRuleS_loop1 xs hx m (i + 1) (by omega) (by omega)
    have hg := rR_get xs i.toNat hil
    have f1 := fil_get' (rR xs) [.v (.int .i64 (0)), .v (.int .i64 (0)), .v (.int .i64 (0))] i h0 (by simp [rR]; omega)
    have f2 := fil_set' (rR xs) [.v (.int .i64 (0)), .v (.int .i64 (0)), .v (.int .i64 (0))] _ i h0 (by simp [rR]; omega) hg
    have h3 := toRule_ok1 xs[i.toNat]
    generalize xs[i.toNat] = x at hg f2 h3
    simp only [GRule.enc, List.map_cons, List.map_nil] at hg f2 h3
    rw [← ih]
    clear ih
    exact lp V17
theorem toRuleS_ok1 (xs : List GRule) (hx : xs.length ≤ 1048576) : fnL Try.prog T1 L1 17 [.c (.d (.sl 3 (rR xs)))] [] = some (.one (.c (.arr 0 0 xs.length)), [some (.arr 3 (rR xs))]) := by
  have Lp := toRuleS_loop1 xs hx xs.length 0 (by omega) (by omega)
  rw [fil_zero'] at Lp
  have hl : (rR xs).length = xs.length := by simp [rR]
  rw [hl] at Lp
  have hroom : room = 70368744177664 := rfl
  exact fn V17 Try.func17

theorem toNode_ok1 (x : GNode) (hx : x.Kids.length ≤ 1048576) : fnL Try.prog T1 L1 31 [.agg [.d (.v (.int .i64 (x.Op))), .d (.v (.string (B (x.Text)))), .d (.sl 1 (rI x.Kids))]] [] = some (.one (.agg [.d (.v (.int .i64 (x.Op))), .d (.v (.string (B (x.Text)))), .arr 0 0 x.Kids.length]), [some (.arr 1 (rI x.Kids))]) := by
  have h1 := toIntS_ok1 x.Kids hx
  exact fn V31 Try.func31
theorem toNodeS_loop1 (xs : List GNode) (hx : xs.length ≤ 1048576) (hb : ∀ x ∈ xs, x.Kids.length ≤ 1048576) : ∀ (m : Nat) (i : Int), 0 ≤ i → i + m = xs.length →
    loopC Try.prog T1 (fnL Try.prog T1 L1) 16 (cq Try.f16 [0, 0, 1, 0, 1, 1]) ⟨[.one (.c (.d (.sl 3 (rN xs)))), J, J, .one (.c (.arr 0 0 xs.length)), .one (.c (.d (.v (.int .i64 (i))))), J, J, J, J, J, J, J, J, J, J, J, J, J, J, J, J, J, J], hpOf [some (.nar 3 (fil' (oN false xs) [.d (.v (.int .i64 (0))), .d (.v (.string (B ([])))), .d (.v (.slice none 0 0))] i) [])], 1, 0⟩ = some (.exit 0, ⟨[J, J, J, .one (.c (.arr 0 0 xs.length)), J, J, J, J, J, J, J, J, J, J, J, J, J, J, J, J, J, J, J], hpOf [some (.nar 3 (oN false xs) [])], 1, 0⟩)
  | 0, i, h0, hm => by
    rw [fil_end' (oN false xs) _ i (by rw [oN_len]; omega)]
    clear hb
    exact lph V16
  | m + 1, i, h0, hm => by
    have hil : i.toNat < xs.length := by omega
    have ih := toNodeS_loop1 xs hx hb m (i + 1) (by omega) (by omega)
    have hg := rN_get xs i.toNat hil
    have f1 := fil_get' (oN false xs) [.d (.v (.int .i64 (0))), .d (.v (.string (B ([])))), .d (.v (.slice none 0 0))] i h0 (by rw [oN_len]; omega)
    have f2 := fil_set' (oN false xs) [.d (.v (.int .i64 (0))), .d (.v (.string (B ([])))), .d (.v (.slice none 0 0))] _ i h0 (by rw [oN_len]; omega) (oN_get false xs i.toNat hil)
    have h3 := toNode_ok1 xs[i.toNat] (hb _ (List.getElem_mem _))
    generalize xs[i.toNat] = x at hg f2 h3
    simp only [encNd, oNd, oK, List.map_cons, List.map_nil] at hg f2 h3
    have t1 := rI_tk x.Kids
    rw [← ih]
    clear ih hb
    exact lph V16
theorem toNodeS_ok1 (xs : List GNode) (hx : xs.length ≤ 1048576) (hb : ∀ x ∈ xs, x.Kids.length ≤ 1048576) : fnL Try.prog T1 L1 16 [.c (.d (.sl 3 (rN xs)))] [] = some (.one (.c (.arr 0 0 xs.length)), [some (.nar 3 (oN false xs) [])]) := by
  have Lp := toNodeS_loop1 xs hx hb xs.length 0 (by omega) (by omega)
  rw [fil_zero', oN_len] at Lp
  have hroom : room = 70368744177664 := rfl
  clear hb
  exact fnh V16 Try.func16
theorem toProgram_ok1 (p : GProgram) (h1 : p.Nodes.length ≤ 1048576) (h2 : p.Rules.length ≤ 1048576) (hk : ∀ x ∈ p.Nodes, x.Kids.length ≤ 1048576) : fnL Try.prog T1 L1 6 [.agg [.d (.sl 3 (rN p.Nodes)), .d (.sl 3 (rR p.Rules))]] [] = some (.one (.agg [.arr 0 0 p.Nodes.length, .arr 1 0 p.Rules.length]), [some (.nar 3 (oN false p.Nodes) []), some (.arr 3 (rR p.Rules))]) := by
  have hN := toNodeS_ok1 p.Nodes h1 hk
  have hR := toRuleS_ok1 p.Rules h2
  clear hk
  exact fn V6 Try.func6
end
end Go.Vsi
