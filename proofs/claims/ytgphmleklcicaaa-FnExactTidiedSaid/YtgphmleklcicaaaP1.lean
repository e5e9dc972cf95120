/- What the functions of the program, of the reference and of the law do (a part of it). -/
import Derived.Test.YtgphmleklcicaaaPY
import Derived.Lib.Bytealg
namespace Go.Vsi
open Go.Proofs
noncomputable section
set_option maxRecDepth 100000
set_option maxHeartbeats 4000000
set_option linter.unusedSimpArgs false
set_option linter.unusedVariables false
attribute [local go_sem ↓] IX9
/-- What is told of the library's functions that are not run. -/
def L0 : Call := fun f args bs => match f with
  | 52 => match args, bs with
    | [.c (.d (.v (.string s))), .c (.d (.v (.string t)))], [] => if s.size < 4294967281 ∧ t.size = 2 ∧ (t.data.toList.all fun b => decide (b.toNat < 128)) = true then some (.one (.c (.d (.v (.bool (s.data.toList.any fun b => t.data.toList.contains b))))), []) else none
    | _, _ => none
  | 90 => match args, bs with
    | [.c (.d (.v (.string s))), .c (.d (.v (.int .u8 c)))], [] => some (.one (.c (.d (.v (.int .i64 (Go.Lib.indexByte s.data.toList c.toNat.toUInt8))))), [])
    | _, _ => none
  | _ => none
theorem B_list (l : List UInt8) : (B l).data.toList = l := rfl
theorem containsAny_ok (s : List UInt8) (a b : UInt8) (hs : s.length < 4294967281) (ha : a.toNat < 128) (hb : b.toNat < 128) : fnL Try.prog T L0 52 [.c (.d (.v (.string (B (s))))), .c (.d (.v (.string (B ([a, b])))))] [] = some (.one (.c (.d (.v (.bool (s.any fun x => decide (x = a) || decide (x = b)))))), []) := by
  refine fnL_lib ?_
  have h : (B s).size < 4294967281 ∧ (B [a, b]).size = 2 ∧ ((B [a, b]).data.toList.all fun b => decide (b.toNat < 128)) = true := ⟨hs, rfl, by simp [B_list, ha, hb]⟩
  simp only [L0, if_pos h]
  simp only [B_list]
  congr 8
  funext x
  rw [Bool.eq_iff_iff]
  simp
theorem indexByte_ok (s : List UInt8) (c : UInt8) : fnL Try.prog T L0 90 [.c (.d (.v (.string (B (s))))), .c (.d (.v (.int .u8 ((c.toNat : Int)))))] [] = some (.one (.c (.d (.v (.int .i64 (Go.Lib.indexByte s c))))), []) := by
  refine fnL_lib ?_
  simp only [L0, B_list, Int.toNat_natCast]
  simp
def rI (xs : List Int) : List (List D) := xs.map fun y => [.v (.int .i64 y)]
theorem within_ok (a b c : Int) : fnL Try.prog T L0 33 [.c (.d (.v (.int .i64 (a)))), .c (.d (.v (.int .i64 (b)))), .c (.d (.v (.int .i64 (c))))] [] = some (.one (.c (.d (.v (.bool (decide (b ≤ a ∧ a ≤ c)))))), []) := by
  refine nfW true (fun _ => W33.2) W33.1 Try.func33 rfl rfl fun c ht hr => ?_; simp only [okW, List.length_cons, List.length_nil, Nat.reduceAdd, firstReg, and_true] at c; simp +contextual (maxSteps := 4000000) (disch := first | assumption | omega) only [go_sem, c, ht, hr, pairsOk, ↓bin_eql, ↓bin_neq, Nat.reduceAdd, Nat.reduceSub, Nat.reduceMul, Nat.reduceBEq, Nat.reduceLeDiff, ↓ite_not, ↓ite_tt, ↓ite_ff, ↓if_pos, ↓if_neg, stpO_ite, grdO_some, stpD_ite, grdD_some, pickO_bool, Nat.reduceLT, Nat.reduceDiv, Nat.reduceMod, condK_bool, regK_ite, drwK_some, drwK_ite]
  split <;> simp [*]
theorem in_ok (a b c : Int) : fnL Try.prog T L0 29 [.c (.d (.v (.int .i64 (a)))), .c (.d (.v (.int .i64 (b)))), .c (.d (.v (.int .i64 (c))))] [] = some (.one (.c (.d (.v (.bool (decide (b ≤ a ∧ a ≤ c)))))), []) := by
  refine nfW true (fun _ => W29.2) W29.1 Try.func29 rfl rfl fun c ht hr => ?_; simp only [okW, List.length_cons, List.length_nil, Nat.reduceAdd, firstReg, and_true] at c; simp +contextual (maxSteps := 4000000) (disch := first | assumption | omega) only [go_sem, c, ht, hr, pairsOk, ↓bin_eql, ↓bin_neq, Nat.reduceAdd, Nat.reduceSub, Nat.reduceMul, Nat.reduceBEq, Nat.reduceLeDiff, ↓ite_not, ↓ite_tt, ↓ite_ff, ↓if_pos, ↓if_neg, stpO_ite, grdO_some, stpD_ite, grdD_some, pickO_bool, Nat.reduceLT, Nat.reduceDiv, Nat.reduceMod, condK_bool, regK_ite, drwK_some, drwK_ite]
  split <;> simp [*]
theorem kidsAhead_loop (xs : List Int) (at' : Int) (hm : xs.length ≤ maxLen) (ha : 0 ≤ at' ∧ at' ≤ maxLen) : ∀ (n : Nat) (i : Int), 0 ≤ i → i + n = xs.length →
    loopC Try.prog T (fnL Try.prog T L0) 34 (cq Try.f34 [0, 0, 1, 0, 1]) ⟨[J, .one (.c (.d (.v (.int .i64 (at'))))), J, J, J, J, J, .one (.c (.d (.sl 1 (rI xs)))), .one (.c (.d (.v (.int .i64 ((xs.length : Int)))))), .one (.c (.d (.v (.int .i64 (i))))), J, J, J, J, J, J, J, J, J], hpOf [], 0, 0⟩ =
      if (xs.drop i.toNat).all (fun k => decide (0 ≤ k ∧ k ≤ at' - 1)) = true then some (.exit 0, ⟨[J, J, J, J, J, J, J, J, J, J, J, J, J, J, J, J, J, J, J], hpOf [], 0, 0⟩) else some (.ret, ⟨[J, J, J, J, .one (.c (.d (.v (.bool (false))))), J, J, J, J, J, J, J, J, J, J, J, J, J, J], hpOf [], 0, 0⟩)
  | 0, i, h0, hn => by
    have : maxLen = 9223372036854775807 := rfl
    refine lpW true (fun _ => W34.2) W34.1 rfl fun c hl => ?_; simp only [subR, chi, okW, List.length_cons, List.length_nil, Nat.reduceAdd, firstReg, and_true] at c hl; simp +contextual (maxSteps := 4000000) (disch := first | assumption | omega) only [go_sem, rI, drop_end, List.all_nil, c, hl, pairsOk, ↓bin_eql, ↓bin_neq, Nat.reduceAdd, Nat.reduceSub, Nat.reduceMul, Nat.reduceBEq, Nat.reduceLeDiff, ↓ite_not, ↓ite_tt, ↓ite_ff, ↓if_pos, ↓if_neg, stpO_ite, grdO_some, stpD_ite, grdD_some, pickO_bool, Nat.reduceLT, Nat.reduceDiv, Nat.reduceMod, condK_bool, regK_ite, drwK_some, drwK_ite]
  | n + 1, i, h0, hn => by
    have : maxLen = 9223372036854775807 := rfl
    have ih := kidsAhead_loop xs at' hm ha n (i + 1) (by omega) (by omega)
    simp only [rI] at ih
    refine lpW true (fun _ => W34.2) W34.1 rfl fun c hl => ?_; simp only [subR, chi, okW, List.length_cons, List.length_nil, Nat.reduceAdd, firstReg, and_true] at c hl; simp +contextual (maxSteps := 4000000) (disch := first | assumption | omega) only [go_sem, rI, within_ok, ih, drop_at, List.all_cons, c, hl, pairsOk, ↓bin_eql, ↓bin_neq, Nat.reduceAdd, Nat.reduceSub, Nat.reduceMul, Nat.reduceBEq, Nat.reduceLeDiff, ↓ite_not, ↓ite_tt, ↓ite_ff, ↓if_pos, ↓if_neg, stpO_ite, grdO_some, stpD_ite, grdD_some, pickO_bool, Nat.reduceLT, Nat.reduceDiv, Nat.reduceMod, condK_bool, regK_ite, drwK_some, drwK_ite]
    clear ih
    grind
theorem kidsAhead_ok (xs : List Int) (at' : Int) (hm : xs.length ≤ maxLen) (ha : 0 ≤ at' ∧ at' ≤ maxLen) : fnL Try.prog T L0 34 [.c (.d (.sl 1 (rI xs))), .c (.d (.v (.int .i64 (at'))))] [] = some (.one (.c (.d (.v (.bool (xs.all (fun k => decide (0 ≤ k ∧ k ≤ at' - 1))))))), []) := by
  have L := kidsAhead_loop xs at' hm ha xs.length 0 (by omega) (by omega)
  simp only [rI] at L
  refine nfW true (fun _ => W34.2) W34.1 Try.func34 rfl rfl fun c ht hr => ?_; simp only [okW, List.length_cons, List.length_nil, Nat.reduceAdd, firstReg, and_true] at c; simp +contextual (maxSteps := 4000000) (disch := first | assumption | omega) only [go_sem, rI, L, c, ht, hr, pairsOk, ↓bin_eql, ↓bin_neq, Nat.reduceAdd, Nat.reduceSub, Nat.reduceMul, Nat.reduceBEq, Nat.reduceLeDiff, ↓ite_not, ↓ite_tt, ↓ite_ff, ↓if_pos, ↓if_neg, stpO_ite, grdO_some, stpD_ite, grdD_some, pickO_bool, Nat.reduceLT, Nat.reduceDiv, Nat.reduceMod, condK_bool, regK_ite, drwK_some, drwK_ite]
  clear L
  grind
def isLet (b : UInt8) : Bool := decide ((97 ≤ (b.toNat : Int) ∧ (b.toNat : Int) ≤ 122) ∨ (65 ≤ (b.toNat : Int) ∧ (b.toNat : Int) ≤ 90))
def isFig (b : UInt8) : Bool := decide (48 ≤ (b.toNat : Int) ∧ (b.toNat : Int) ≤ 57)
theorem isLetter_ok (b : UInt8) : fnL Try.prog T L0 68 [.c (.d (.v (.int .u8 ((b.toNat : Int)))))] [] = some (.one (.c (.d (.v (.bool (isLet b))))), []) := by
  refine nfW true (fun _ => W68.2) W68.1 Try.func68 rfl rfl fun c ht hr => ?_; simp only [okW, List.length_cons, List.length_nil, Nat.reduceAdd, firstReg, and_true] at c; simp +contextual (maxSteps := 4000000) (disch := first | assumption | omega) only [go_sem, within_ok, isLet, c, ht, hr, pairsOk, ↓bin_eql, ↓bin_neq, Nat.reduceAdd, Nat.reduceSub, Nat.reduceMul, Nat.reduceBEq, Nat.reduceLeDiff, ↓ite_not, ↓ite_tt, ↓ite_ff, ↓if_pos, ↓if_neg, stpO_ite, grdO_some, stpD_ite, grdD_some, pickO_bool, Nat.reduceLT, Nat.reduceDiv, Nat.reduceMod, condK_bool, regK_ite, drwK_some, drwK_ite]
  grind
theorem l05Letter_ok (b : UInt8) : fnL Try.prog T L0 66 [.c (.d (.v (.int .u8 ((b.toNat : Int)))))] [] = some (.one (.c (.d (.v (.bool (isLet b))))), []) := by
  refine nfW true (fun _ => W66.2) W66.1 Try.func66 rfl rfl fun c ht hr => ?_; simp only [okW, List.length_cons, List.length_nil, Nat.reduceAdd, firstReg, and_true] at c; simp +contextual (maxSteps := 4000000) (disch := first | assumption | omega) only [go_sem, isLet, c, ht, hr, pairsOk, ↓bin_eql, ↓bin_neq, Nat.reduceAdd, Nat.reduceSub, Nat.reduceMul, Nat.reduceBEq, Nat.reduceLeDiff, ↓ite_not, ↓ite_tt, ↓ite_ff, ↓if_pos, ↓if_neg, stpO_ite, grdO_some, stpD_ite, grdD_some, pickO_bool, Nat.reduceLT, Nat.reduceDiv, Nat.reduceMod, condK_bool, regK_ite, drwK_some, drwK_ite]
  grind
theorem isFigure_ok (b : UInt8) : fnL Try.prog T L0 60 [.c (.d (.v (.int .u8 ((b.toNat : Int)))))] [] = some (.one (.c (.d (.v (.bool (isFig b))))), []) := by
  refine nfW true (fun _ => W60.2) W60.1 Try.func60 rfl rfl fun c ht hr => ?_; simp only [okW, List.length_cons, List.length_nil, Nat.reduceAdd, firstReg, and_true] at c; simp +contextual (maxSteps := 4000000) (disch := first | assumption | omega) only [go_sem, within_ok, isFig, c, ht, hr, pairsOk, ↓bin_eql, ↓bin_neq, Nat.reduceAdd, Nat.reduceSub, Nat.reduceMul, Nat.reduceBEq, Nat.reduceLeDiff, ↓ite_not, ↓ite_tt, ↓ite_ff, ↓if_pos, ↓if_neg, stpO_ite, grdO_some, stpD_ite, grdD_some, pickO_bool, Nat.reduceLT, Nat.reduceDiv, Nat.reduceMod, condK_bool, regK_ite, drwK_some, drwK_ite]

theorem isLetters_loop (s : List UInt8) (hm : s.length ≤ maxLen) : ∀ (n : Nat) (i : Int), 0 ≤ i → i + n = s.length →
    loopC Try.prog T (fnL Try.prog T L0) 61 (cq Try.f61 [0, 0, 1, 0, 1]) ⟨[.one (.c (.d (.v (.string (B (s)))))), J, J, J, J, .one (.c (.d (.v (.int .i64 ((s.length : Int)))))), .one (.c (.d (.v (.int .i64 (i))))), J, J, J, J, J, J, J, J, J, J, J], hpOf [], 0, 0⟩ =
      if (s.drop i.toNat).all (fun b => isLet b) = true then some (.exit 0, ⟨[.one (.c (.d (.v (.string (B (s)))))), J, J, J, J, J, J, J, J, J, J, J, J, J, J, J, J, J], hpOf [], 0, 0⟩) else some (.ret, ⟨[.one (.c (.d (.v (.string (B (s)))))), J, .one (.c (.d (.v (.bool (false))))), J, J, J, J, J, J, J, J, J, J, J, J, J, J, J], hpOf [], 0, 0⟩)
  | 0, i, h0, hn => by
    have : maxLen = 9223372036854775807 := rfl
    refine lpW true (fun _ => W61.2) W61.1 rfl fun c hl => ?_; simp only [subR, chi, okW, List.length_cons, List.length_nil, Nat.reduceAdd, firstReg, and_true] at c hl; simp +contextual (maxSteps := 4000000) (disch := first | assumption | omega) only [go_sem, drop_end, List.all_nil, c, hl, pairsOk, ↓bin_eql, ↓bin_neq, Nat.reduceAdd, Nat.reduceSub, Nat.reduceMul, Nat.reduceBEq, Nat.reduceLeDiff, ↓ite_not, ↓ite_tt, ↓ite_ff, ↓if_pos, ↓if_neg, stpO_ite, grdO_some, stpD_ite, grdD_some, pickO_bool, Nat.reduceLT, Nat.reduceDiv, Nat.reduceMod, condK_bool, regK_ite, drwK_some, drwK_ite]
  | n + 1, i, h0, hn => by
    have : maxLen = 9223372036854775807 := rfl
    have ih := isLetters_loop s hm n (i + 1) (by omega) (by omega)
    refine lpW true (fun _ => W61.2) W61.1 rfl fun c hl => ?_; simp only [subR, chi, okW, List.length_cons, List.length_nil, Nat.reduceAdd, firstReg, and_true] at c hl; simp +contextual (maxSteps := 4000000) (disch := first | assumption | omega) only [go_sem, ih, drop_at, List.all_cons, isLetter_ok, c, hl, pairsOk, ↓bin_eql, ↓bin_neq, Nat.reduceAdd, Nat.reduceSub, Nat.reduceMul, Nat.reduceBEq, Nat.reduceLeDiff, ↓ite_not, ↓ite_tt, ↓ite_ff, ↓if_pos, ↓if_neg, stpO_ite, grdO_some, stpD_ite, grdD_some, pickO_bool, Nat.reduceLT, Nat.reduceDiv, Nat.reduceMod, condK_bool, regK_ite, drwK_some, drwK_ite]
    clear ih
    grind
theorem isLetters_ok (s : List UInt8) (hm : s.length ≤ maxLen) : fnL Try.prog T L0 61 [.c (.d (.v (.string (B (s)))))] [] = some (.one (.c (.d (.v (.bool (s.all (fun b => isLet b) && decide (1 ≤ (s.length : Int) ∧ (s.length : Int) ≤ 8)))))), []) := by
  have L := isLetters_loop s hm s.length 0 (by omega) (by omega)
  refine nfW true (fun _ => W61.2) W61.1 Try.func61 rfl rfl fun c ht hr => ?_; simp only [okW, List.length_cons, List.length_nil, Nat.reduceAdd, firstReg, and_true] at c; simp +contextual (maxSteps := 4000000) (disch := first | assumption | omega) only [go_sem, within_ok, L, c, ht, hr, pairsOk, ↓bin_eql, ↓bin_neq, Nat.reduceAdd, Nat.reduceSub, Nat.reduceMul, Nat.reduceBEq, Nat.reduceLeDiff, ↓ite_not, ↓ite_tt, ↓ite_ff, ↓if_pos, ↓if_neg, stpO_ite, grdO_some, stpD_ite, grdD_some, pickO_bool, Nat.reduceLT, Nat.reduceDiv, Nat.reduceMod, condK_bool, regK_ite, drwK_some, drwK_ite]
  clear L
  grind

theorem allFigures_loop (s : List UInt8) (lo hi : Int) (hm : s.length ≤ maxLen) : ∀ (n : Nat) (i : Int), 0 ≤ i → i + n = s.length →
    loopC Try.prog T (fnL Try.prog T L0) 48 (cq Try.f48 [0, 0, 1, 0, 1]) ⟨[.one (.c (.d (.v (.string (B (s)))))), .one (.c (.d (.v (.int .i64 (lo))))), .one (.c (.d (.v (.int .i64 (hi))))), J, J, J, J, J, J, .one (.c (.d (.v (.int .i64 ((s.length : Int)))))), .one (.c (.d (.v (.int .i64 (i))))), J, J, J, J, J, J, J, J, J, J, J, J, J], hpOf [], 0, 0⟩ =
      if (s.drop i.toNat).all (fun b => isFig b) = true then some (.exit 0, ⟨[.one (.c (.d (.v (.string (B (s)))))), .one (.c (.d (.v (.int .i64 (lo))))), .one (.c (.d (.v (.int .i64 (hi))))), J, J, J, J, J, J, J, J, J, J, J, J, J, J, J, J, J, J, J, J, J], hpOf [], 0, 0⟩) else some (.ret, ⟨[.one (.c (.d (.v (.string (B (s)))))), .one (.c (.d (.v (.int .i64 (lo))))), .one (.c (.d (.v (.int .i64 (hi))))), J, J, J, .one (.c (.d (.v (.bool (false))))), J, J, J, J, J, J, J, J, J, J, J, J, J, J, J, J, J], hpOf [], 0, 0⟩)
  | 0, i, h0, hn => by
    have : maxLen = 9223372036854775807 := rfl
    refine lpW true (fun _ => W48.2) W48.1 rfl fun c hl => ?_; simp only [subR, chi, okW, List.length_cons, List.length_nil, Nat.reduceAdd, firstReg, and_true] at c hl; simp +contextual (maxSteps := 4000000) (disch := first | assumption | omega) only [go_sem, drop_end, List.all_nil, c, hl, pairsOk, ↓bin_eql, ↓bin_neq, Nat.reduceAdd, Nat.reduceSub, Nat.reduceMul, Nat.reduceBEq, Nat.reduceLeDiff, ↓ite_not, ↓ite_tt, ↓ite_ff, ↓if_pos, ↓if_neg, stpO_ite, grdO_some, stpD_ite, grdD_some, pickO_bool, Nat.reduceLT, Nat.reduceDiv, Nat.reduceMod, condK_bool, regK_ite, drwK_some, drwK_ite]
  | n + 1, i, h0, hn => by
    have : maxLen = 9223372036854775807 := rfl
    have ih := allFigures_loop s lo hi hm n (i + 1) (by omega) (by omega)
    refine lpW true (fun _ => W48.2) W48.1 rfl fun c hl => ?_; simp only [subR, chi, okW, List.length_cons, List.length_nil, Nat.reduceAdd, firstReg, and_true] at c hl; simp +contextual (maxSteps := 4000000) (disch := first | assumption | omega) only [go_sem, ih, drop_at, List.all_cons, isFigure_ok, c, hl, pairsOk, ↓bin_eql, ↓bin_neq, Nat.reduceAdd, Nat.reduceSub, Nat.reduceMul, Nat.reduceBEq, Nat.reduceLeDiff, ↓ite_not, ↓ite_tt, ↓ite_ff, ↓if_pos, ↓if_neg, stpO_ite, grdO_some, stpD_ite, grdD_some, pickO_bool, Nat.reduceLT, Nat.reduceDiv, Nat.reduceMod, condK_bool, regK_ite, drwK_some, drwK_ite]
    clear ih
    grind
theorem allFigures_ok (s : List UInt8) (lo hi : Int) (hm : s.length ≤ maxLen) : fnL Try.prog T L0 48 [.c (.d (.v (.string (B (s))))), .c (.d (.v (.int .i64 (lo)))), .c (.d (.v (.int .i64 (hi))))] [] = some (.one (.c (.d (.v (.bool (s.all (fun b => isFig b) && decide (lo ≤ (s.length : Int) ∧ (s.length : Int) ≤ hi)))))), []) := by
  have L := allFigures_loop s lo hi hm s.length 0 (by omega) (by omega)
  refine nfW true (fun _ => W48.2) W48.1 Try.func48 rfl rfl fun c ht hr => ?_; simp only [okW, List.length_cons, List.length_nil, Nat.reduceAdd, firstReg, and_true] at c; simp +contextual (maxSteps := 4000000) (disch := first | assumption | omega) only [go_sem, within_ok, L, c, ht, hr, pairsOk, ↓bin_eql, ↓bin_neq, Nat.reduceAdd, Nat.reduceSub, Nat.reduceMul, Nat.reduceBEq, Nat.reduceLeDiff, ↓ite_not, ↓ite_tt, ↓ite_ff, ↓if_pos, ↓if_neg, stpO_ite, grdO_some, stpD_ite, grdD_some, pickO_bool, Nat.reduceLT, Nat.reduceDiv, Nat.reduceMod, condK_bool, regK_ite, drwK_some, drwK_ite]
  clear L
  grind

theorem IsNum_loop (s : List UInt8) (hm : s.length ≤ maxLen) : ∀ (n : Nat) (i : Int), 0 ≤ i → i + n = s.length →
    loopC Try.prog T (fnL Try.prog T L0) 56 (cq Try.f56 [0, 0, 1, 0, 1]) ⟨[.one (.c (.d (.v (.string (B (s)))))), J, J, .one (.c (.d (.v (.int .i64 (i))))), J, J, J, J, J, J, J, J, J, J, J, J, J, J, J, J, J, J, J], hpOf [], 0, 0⟩ =
      if (s.drop i.toNat).all (fun b => isFig b) = true then some (.exit 0, ⟨[.one (.c (.d (.v (.string (B (s)))))), J, J, J, J, J, J, J, J, J, J, J, J, J, J, J, J, J, J, J, J, J, J], hpOf [], 0, 0⟩) else some (.ret, ⟨[.one (.c (.d (.v (.string (B (s)))))), J, .one (.c (.d (.v (.bool (false))))), J, J, J, J, J, J, J, J, J, J, J, J, J, J, J, J, J, J, J, J], hpOf [], 0, 0⟩)
  | 0, i, h0, hn => by
    have : maxLen = 9223372036854775807 := rfl
    refine lpW true (fun _ => W56.2) W56.1 rfl fun c hl => ?_; simp only [subR, chi, okW, List.length_cons, List.length_nil, Nat.reduceAdd, firstReg, and_true] at c hl; simp +contextual (maxSteps := 4000000) (disch := first | assumption | omega) only [go_sem, drop_end, List.all_nil, c, hl, pairsOk, ↓bin_eql, ↓bin_neq, Nat.reduceAdd, Nat.reduceSub, Nat.reduceMul, Nat.reduceBEq, Nat.reduceLeDiff, ↓ite_not, ↓ite_tt, ↓ite_ff, ↓if_pos, ↓if_neg, stpO_ite, grdO_some, stpD_ite, grdD_some, pickO_bool, Nat.reduceLT, Nat.reduceDiv, Nat.reduceMod, condK_bool, regK_ite, drwK_some, drwK_ite]
  | n + 1, i, h0, hn => by
    have : maxLen = 9223372036854775807 := rfl
    have ih := IsNum_loop s hm n (i + 1) (by omega) (by omega)
    refine lpW true (fun _ => W56.2) W56.1 rfl fun c hl => ?_; simp only [subR, chi, okW, List.length_cons, List.length_nil, Nat.reduceAdd, firstReg, and_true] at c hl; simp +contextual (maxSteps := 4000000) (disch := first | assumption | omega) only [go_sem, ih, drop_at, List.all_cons, isFig, c, hl, pairsOk, ↓bin_eql, ↓bin_neq, Nat.reduceAdd, Nat.reduceSub, Nat.reduceMul, Nat.reduceBEq, Nat.reduceLeDiff, ↓ite_not, ↓ite_tt, ↓ite_ff, ↓if_pos, ↓if_neg, stpO_ite, grdO_some, stpD_ite, grdD_some, pickO_bool, Nat.reduceLT, Nat.reduceDiv, Nat.reduceMod, condK_bool, regK_ite, drwK_some, drwK_ite]
    clear ih
    grind
theorem IsNum_ok (s : List UInt8) (hm : s.length ≤ maxLen) : fnL Try.prog T L0 56 [.c (.d (.v (.string (B (s)))))] [] = some (.one (.c (.d (.v (.bool (s.all (fun b => isFig b) && decide (1 ≤ (s.length : Int) ∧ (s.length : Int) ≤ 6)))))), []) := by
  have L := IsNum_loop s hm s.length 0 (by omega) (by omega)
  refine nfW true (fun _ => W56.2) W56.1 Try.func56 rfl rfl fun c ht hr => ?_; simp only [okW, List.length_cons, List.length_nil, Nat.reduceAdd, firstReg, and_true] at c; simp +contextual (maxSteps := 4000000) (disch := first | assumption | omega) only [go_sem, in_ok, L, c, ht, hr, pairsOk, ↓bin_eql, ↓bin_neq, Nat.reduceAdd, Nat.reduceSub, Nat.reduceMul, Nat.reduceBEq, Nat.reduceLeDiff, ↓ite_not, ↓ite_tt, ↓ite_ff, ↓if_pos, ↓if_neg, stpO_ite, grdO_some, stpD_ite, grdD_some, pickO_bool, Nat.reduceLT, Nat.reduceDiv, Nat.reduceMod, condK_bool, regK_ite, drwK_some, drwK_ite]
  clear L
  grind

theorem l06Plain_loop (s : List UInt8) (most : Int) (mark : UInt8) (hm : s.length ≤ maxLen) : ∀ (n : Nat) (i : Int), 0 ≤ i → i + n = s.length →
    loopC Try.prog T (fnL Try.prog T L0) 57 (cq Try.f57 [0, 0, 1, 0, 1]) ⟨[.one (.c (.d (.v (.string (B (s)))))), .one (.c (.d (.v (.int .i64 (most))))), .one (.c (.d (.v (.int .u8 ((mark.toNat : Int)))))), J, J, J, J, .one (.c (.d (.v (.int .i64 (i))))), J, J, J, J, J, J, J, J, J, J, J, J, J, J, J, J, J, J, J, J, J], hpOf [], 0, 0⟩ =
      if (s.drop i.toNat).all (fun b => !decide ((b.toNat : Int) = (mark.toNat : Int)) && !decide ((b.toNat : Int) = 10)) = true then some (.exit 0, ⟨[.one (.c (.d (.v (.string (B (s)))))), .one (.c (.d (.v (.int .i64 (most))))), J, J, J, J, J, J, J, J, J, J, J, J, J, J, J, J, J, J, J, J, J, J, J, J, J, J, J], hpOf [], 0, 0⟩) else some (.ret, ⟨[.one (.c (.d (.v (.string (B (s)))))), .one (.c (.d (.v (.int .i64 (most))))), J, J, J, J, .one (.c (.d (.v (.bool (false))))), J, J, J, J, J, J, J, J, J, J, J, J, J, J, J, J, J, J, J, J, J, J], hpOf [], 0, 0⟩)
  | 0, i, h0, hn => by
    have : maxLen = 9223372036854775807 := rfl
    refine lpW true (fun _ => W57.2) W57.1 rfl fun c hl => ?_; simp only [subR, chi, okW, List.length_cons, List.length_nil, Nat.reduceAdd, firstReg, and_true] at c hl; simp +contextual (maxSteps := 4000000) (disch := first | assumption | omega) only [go_sem, drop_end, List.all_nil, c, hl, pairsOk, ↓bin_eql, ↓bin_neq, Nat.reduceAdd, Nat.reduceSub, Nat.reduceMul, Nat.reduceBEq, Nat.reduceLeDiff, ↓ite_not, ↓ite_tt, ↓ite_ff, ↓if_pos, ↓if_neg, stpO_ite, grdO_some, stpD_ite, grdD_some, pickO_bool, Nat.reduceLT, Nat.reduceDiv, Nat.reduceMod, condK_bool, regK_ite, drwK_some, drwK_ite]
  | n + 1, i, h0, hn => by
    have : maxLen = 9223372036854775807 := rfl
    have ih := l06Plain_loop s most mark hm n (i + 1) (by omega) (by omega)
    refine lpW true (fun _ => W57.2) W57.1 rfl fun c hl => ?_; simp only [subR, chi, okW, List.length_cons, List.length_nil, Nat.reduceAdd, firstReg, and_true] at c hl; simp +contextual (maxSteps := 4000000) (disch := first | assumption | omega) only [go_sem, ih, drop_at, List.all_cons, Bool.not_not, c, hl, pairsOk, ↓bin_eql, ↓bin_neq, Nat.reduceAdd, Nat.reduceSub, Nat.reduceMul, Nat.reduceBEq, Nat.reduceLeDiff, ↓ite_not, ↓ite_tt, ↓ite_ff, ↓if_pos, ↓if_neg, stpO_ite, grdO_some, stpD_ite, grdD_some, pickO_bool, Nat.reduceLT, Nat.reduceDiv, Nat.reduceMod, condK_bool, regK_ite, drwK_some, drwK_ite]
    clear ih
    grind
theorem l06Plain_ok (s : List UInt8) (most : Int) (mark : UInt8) (hm : s.length ≤ maxLen) : fnL Try.prog T L0 57 [.c (.d (.v (.string (B (s))))), .c (.d (.v (.int .i64 (most)))), .c (.d (.v (.int .u8 ((mark.toNat : Int)))))] [] = some (.one (.c (.d (.v (.bool (s.all (fun b => !decide ((b.toNat : Int) = (mark.toNat : Int)) && !decide ((b.toNat : Int) = 10)) && decide ((s.length : Int) ≤ most)))))), []) := by
  have L := l06Plain_loop s most mark hm s.length 0 (by omega) (by omega)
  refine nfW true (fun _ => W57.2) W57.1 Try.func57 rfl rfl fun c ht hr => ?_; simp only [okW, List.length_cons, List.length_nil, Nat.reduceAdd, firstReg, and_true] at c; simp +contextual (maxSteps := 4000000) (disch := first | assumption | omega) only [go_sem, L, c, ht, hr, pairsOk, ↓bin_eql, ↓bin_neq, Nat.reduceAdd, Nat.reduceSub, Nat.reduceMul, Nat.reduceBEq, Nat.reduceLeDiff, ↓ite_not, ↓ite_tt, ↓ite_ff, ↓if_pos, ↓if_neg, stpO_ite, grdO_some, stpD_ite, grdD_some, pickO_bool, Nat.reduceLT, Nat.reduceDiv, Nat.reduceMod, condK_bool, regK_ite, drwK_some, drwK_ite]
  clear L
  grind
def rS (xs : List (List UInt8)) : List (List D) := xs.map fun y => [.v (.string (B (y)))]
def idxS (s : List UInt8) : List (List UInt8) → Int → Int
  | [], _ => -1
  | w :: ws, i => if s = w then i else idxS s ws (i + 1)
theorem idxS_ge (s : List UInt8) : ∀ (ws : List (List UInt8)) (i : Int), s ∈ ws → i ≤ idxS s ws i
  | [], _, h => by cases h
  | w :: ws, i, h => by
    unfold idxS
    split
    · omega
    · rename_i hn
      rcases List.mem_cons.1 h with h | h
      · exact absurd h hn
      · have := idxS_ge s ws (i + 1) h
        omega
theorem sIndex_loop (ws : List (List UInt8)) (s : List UInt8) (hm : ws.length ≤ maxLen) : ∀ (n : Nat) (i : Int), 0 ≤ i → i + n = ws.length →
    loopC Try.prog T (fnL Try.prog T L0) 81 (cq Try.f81 [0, 0, 1, 0, 1]) ⟨[.one (.c (.arr 0 0 ws.length)), .one (.c (.d (.v (.string (B (s)))))), J, J, J, J, J, .one (.c (.d (.v (.int .i64 ((ws.length : Int)))))), .one (.c (.d (.v (.int .i64 (i))))), J, J, J, J, J, J, J, J, J, J], hpOf [some (.arr 1 (rS ws))], 1, 1⟩ =
      if s ∈ ws.drop i.toNat then some (.ret, ⟨[J, J, J, J, .one (.c (.d (.v (.int .i64 (idxS s (ws.drop i.toNat) i))))), J, J, J, J, J, J, J, J, J, J, J, J, J, J], hpOf [some (.arr 1 (rS ws))], 1, 1⟩) else some (.exit 0, ⟨[J, J, J, J, J, J, J, J, J, J, J, J, J, J, J, J, J, J, J], hpOf [some (.arr 1 (rS ws))], 1, 1⟩)
  | 0, i, h0, hn => by
    have : maxLen = 9223372036854775807 := rfl
    refine lpW true (fun _ => W81.2) W81.1 rfl fun c hl => ?_; simp only [subR, chi, okW, List.length_cons, List.length_nil, Nat.reduceAdd, firstReg, and_true] at c hl; simp +contextual (maxSteps := 4000000) (disch := first | assumption | omega) only [go_sem, rS, drop_end, List.not_mem_nil, c, hl, pairsOk, ↓bin_eql, ↓bin_neq, Nat.reduceAdd, Nat.reduceSub, Nat.reduceMul, Nat.reduceBEq, Nat.reduceLeDiff, ↓ite_not, ↓ite_tt, ↓ite_ff, ↓if_pos, ↓if_neg, stpO_ite, grdO_some, stpD_ite, grdD_some, pickO_bool, Nat.reduceLT, Nat.reduceDiv, Nat.reduceMod, condK_bool, regK_ite, drwK_some, drwK_ite]
  | n + 1, i, h0, hn => by
    have : maxLen = 9223372036854775807 := rfl
    have ih := sIndex_loop ws s hm n (i + 1) (by omega) (by omega)
    simp only [rS] at ih
    refine lpW true (fun _ => W81.2) W81.1 rfl fun c hl => ?_; simp only [subR, chi, okW, List.length_cons, List.length_nil, Nat.reduceAdd, firstReg, and_true] at c hl; simp +contextual (maxSteps := 4000000) (disch := first | assumption | omega) only [go_sem, rS, ih, drop_at, List.mem_cons, idxS, c, hl, pairsOk, ↓bin_eql, ↓bin_neq, Nat.reduceAdd, Nat.reduceSub, Nat.reduceMul, Nat.reduceBEq, Nat.reduceLeDiff, ↓ite_not, ↓ite_tt, ↓ite_ff, ↓if_pos, ↓if_neg, stpO_ite, grdO_some, stpD_ite, grdD_some, pickO_bool, Nat.reduceLT, Nat.reduceDiv, Nat.reduceMod, condK_bool, regK_ite, drwK_some, drwK_ite]
    clear ih
    grind
theorem sIndex_ok (ws : List (List UInt8)) (s : List UInt8) (hm : ws.length ≤ maxLen) : fnL Try.prog T L0 81 [.c (.arr 0 0 ws.length), .c (.d (.v (.string (B (s)))))] [some (.arr 1 (rS ws))] = some (.one (.c (.d (.v (.int .i64 (if s ∈ ws then idxS s ws 0 else -1))))), [some (.arr 1 (rS ws))]) := by
  have L := sIndex_loop ws s hm ws.length 0 (by omega) (by omega)
  simp only [rS] at L
  refine nfW true (fun _ => W81.2) W81.1 Try.func81 rfl rfl fun c ht hr => ?_; simp only [okW, List.length_cons, List.length_nil, Nat.reduceAdd, firstReg, and_true] at c; simp +contextual (maxSteps := 4000000) (disch := first | assumption | omega) only [go_sem, rS, L, c, ht, hr, pairsOk, ↓bin_eql, ↓bin_neq, Nat.reduceAdd, Nat.reduceSub, Nat.reduceMul, Nat.reduceBEq, Nat.reduceLeDiff, ↓ite_not, ↓ite_tt, ↓ite_ff, ↓if_pos, ↓if_neg, stpO_ite, grdO_some, stpD_ite, grdD_some, pickO_bool, Nat.reduceLT, Nat.reduceDiv, Nat.reduceMod, condK_bool, regK_ite, drwK_some, drwK_ite]
  clear L
  grind
theorem sContains_ok (ws : List (List UInt8)) (s : List UInt8) (hm : ws.length ≤ maxLen) : fnL Try.prog T L0 69 [.c (.arr 0 0 ws.length), .c (.d (.v (.string (B (s)))))] [some (.arr 1 (rS ws))] = some (.one (.c (.d (.v (.bool (decide (s ∈ ws)))))), [some (.arr 1 (rS ws))]) := by
  have h := idxS_ge s ws 0
  have L := sIndex_ok ws s hm
  simp only [rS] at L
  refine nfW true (fun _ => W69.2) W69.1 Try.func69 rfl rfl fun c ht hr => ?_; simp only [okW, List.length_cons, List.length_nil, Nat.reduceAdd, firstReg, and_true] at c; simp +contextual (maxSteps := 4000000) (disch := first | assumption | omega) only [go_sem, rS, L, c, ht, hr, pairsOk, ↓bin_eql, ↓bin_neq, Nat.reduceAdd, Nat.reduceSub, Nat.reduceMul, Nat.reduceBEq, Nat.reduceLeDiff, ↓ite_not, ↓ite_tt, ↓ite_ff, ↓if_pos, ↓if_neg, stpO_ite, grdO_some, stpD_ite, grdD_some, pickO_bool, Nat.reduceLT, Nat.reduceDiv, Nat.reduceMod, condK_bool, regK_ite, drwK_some, drwK_ite]
  clear L
  by_cases hs : s ∈ ws
  · simp [hs, h hs]
  · simp [hs]
def words1 : List (List UInt8) := [[66, 69, 71, 73, 78], [69, 78, 68], [112, 114, 105, 110, 116], [110, 101, 120, 116], [100, 117, 109, 112], [105, 102], [101, 108, 115, 101], [78, 70], [78, 82], [108, 101, 110, 103, 116, 104]]
def words2 : List (List UInt8) := [[66, 69, 71, 73, 78], [69, 78, 68], [112, 114, 105, 110, 116], [110, 101, 120, 116], [100, 117, 109, 112], [105, 102], [101, 108, 115, 101], [108, 101, 110, 103, 116, 104], [78, 70], [78, 82]]
theorem isWordKept_ok (s : List UInt8) : fnL Try.prog T L0 62 [.c (.d (.v (.string (B (s)))))] [] = some (.one (.c (.d (.v (.bool (decide (s ∈ words1)))))), []) := by
  have L := sContains_ok [[66, 69, 71, 73, 78], [69, 78, 68], [112, 114, 105, 110, 116], [110, 101, 120, 116], [100, 117, 109, 112], [105, 102], [101, 108, 115, 101], [78, 70], [78, 82], [108, 101, 110, 103, 116, 104]] s (by decide)
  simp only [rS, List.map_cons, List.map_nil, List.length_cons, List.length_nil, Nat.reduceAdd] at L
  refine nfW true (fun _ => W62.2) W62.1 Try.func62 rfl rfl fun c ht hr => ?_; simp only [okW, List.length_cons, List.length_nil, Nat.reduceAdd, firstReg, and_true] at c; simp +contextual (maxSteps := 4000000) (disch := first | assumption | omega) only [go_sem, L, c, ht, hr, pairsOk, ↓bin_eql, ↓bin_neq, Nat.reduceAdd, Nat.reduceSub, Nat.reduceMul, Nat.reduceBEq, Nat.reduceLeDiff, ↓ite_not, ↓ite_tt, ↓ite_ff, ↓if_pos, ↓if_neg, stpO_ite, grdO_some, stpD_ite, grdD_some, pickO_bool, Nat.reduceLT, Nat.reduceDiv, Nat.reduceMod, condK_bool, regK_ite, drwK_some, drwK_ite]
  rfl
theorem isName_ok (s : List UInt8) (hm : s.length ≤ maxLen) : fnL Try.prog T L0 50 [.c (.d (.v (.string (B (s)))))] [] = some (.one (.c (.d (.v (.bool ((s.all (fun b => isLet b) && decide (1 ≤ (s.length : Int) ∧ (s.length : Int) ≤ 8)) && !decide (s ∈ words1)))))), []) := by
  refine nfW true (fun _ => W50.2) W50.1 Try.func50 rfl rfl fun c ht hr => ?_; simp only [okW, List.length_cons, List.length_nil, Nat.reduceAdd, firstReg, and_true] at c; simp +contextual (maxSteps := 4000000) (disch := first | assumption | omega) only [go_sem, isLetters_ok, isWordKept_ok, c, ht, hr, pairsOk, ↓bin_eql, ↓bin_neq, Nat.reduceAdd, Nat.reduceSub, Nat.reduceMul, Nat.reduceBEq, Nat.reduceLeDiff, ↓ite_not, ↓ite_tt, ↓ite_ff, ↓if_pos, ↓if_neg, stpO_ite, grdO_some, stpD_ite, grdD_some, pickO_bool, Nat.reduceLT, Nat.reduceDiv, Nat.reduceMod, condK_bool, regK_ite, drwK_some, drwK_ite]
  grind
theorem l06Name_loop1 (ws : List (List UInt8)) (s : List UInt8) (hl : ws.length = 10) : ∀ (n : Nat) (i : Int), 0 ≤ i → i + n = ws.length →
    loopC Try.prog T (fnL Try.prog T L0) 58 (cq Try.f58 [0, 0, 1, 0, 1, 1]) ⟨[.one (.c (.d (.v (.string (B (s)))))), J, J, .one (.c (.arr 0 0 10)), .one (.c (.d (.v (.int .i64 (i))))), J, J, J, J, J, J, J, J, J, J, J, J, J, J, J, J, J, J, J, J, J, J, J, J, J, J, J, J], hpOf [some (.arr 1 (rS ws))], 1, 0⟩ =
      if s ∈ ws.drop i.toNat then some (.ret, ⟨[.one (.c (.d (.v (.string (B (s)))))), J, .one (.c (.d (.v (.bool (false))))), J, J, J, J, J, J, J, J, J, J, J, J, J, J, J, J, J, J, J, J, J, J, J, J, J, J, J, J, J, J], hpOf [], 0, 0⟩) else some (.exit 0, ⟨[.one (.c (.d (.v (.string (B (s)))))), J, J, J, J, J, J, J, J, J, J, J, J, J, J, J, J, J, J, J, J, J, J, J, J, J, J, J, J, J, J, J, J], hpOf [], 0, 0⟩)
  | 0, i, h0, hn => by
    refine lpW true (fun _ => W58.2) W58.1 rfl fun c hl => ?_; simp only [subR, chi, okW, List.length_cons, List.length_nil, Nat.reduceAdd, firstReg, and_true] at c hl; simp +contextual (maxSteps := 4000000) (disch := first | assumption | omega) only [go_sem, rS, hl, drop_end, List.not_mem_nil, c, hl, pairsOk, ↓bin_eql, ↓bin_neq, Nat.reduceAdd, Nat.reduceSub, Nat.reduceMul, Nat.reduceBEq, Nat.reduceLeDiff, ↓ite_not, ↓ite_tt, ↓ite_ff, ↓if_pos, ↓if_neg, stpO_ite, grdO_some, stpD_ite, grdD_some, pickO_bool, Nat.reduceLT, Nat.reduceDiv, Nat.reduceMod, condK_bool, regK_ite, drwK_some, drwK_ite]
  | n + 1, i, h0, hn => by
    have ih := l06Name_loop1 ws s hl n (i + 1) (by omega) (by omega)
    simp only [rS] at ih
    refine lpW true (fun _ => W58.2) W58.1 rfl fun c hl => ?_; simp only [subR, chi, okW, List.length_cons, List.length_nil, Nat.reduceAdd, firstReg, and_true] at c hl; simp +contextual (maxSteps := 4000000) (disch := first | assumption | omega) only [go_sem, rS, hl, ih, drop_at, List.mem_cons, eq_comm (a := s), c, hl, pairsOk, ↓bin_eql, ↓bin_neq, Nat.reduceAdd, Nat.reduceSub, Nat.reduceMul, Nat.reduceBEq, Nat.reduceLeDiff, ↓ite_not, ↓ite_tt, ↓ite_ff, ↓if_pos, ↓if_neg, stpO_ite, grdO_some, stpD_ite, grdD_some, pickO_bool, Nat.reduceLT, Nat.reduceDiv, Nat.reduceMod, condK_bool, regK_ite, drwK_some, drwK_ite]
    clear ih
    grind

theorem l06Name_loop (s : List UInt8) (hm : s.length ≤ maxLen) : ∀ (n : Nat) (i : Int), 0 ≤ i → i + n = s.length →
    loopC Try.prog T (fnL Try.prog T L0) 58 (cq Try.f58 [0, 0, 1, 0, 1, 1, 1]) ⟨[.one (.c (.d (.v (.string (B (s)))))), J, J, J, J, .one (.c (.d (.v (.int .i64 (i))))), J, J, J, J, J, J, J, J, J, J, J, J, J, J, J, J, J, J, J, J, J, J, J, J, J, J, J], hpOf [], 0, 0⟩ =
      if (s.drop i.toNat).all (fun b => isLet b) = true then some (.exit 2, ⟨[.one (.c (.d (.v (.string (B (s)))))), J, J, J, J, J, J, J, J, J, J, J, J, J, J, J, J, J, J, J, J, J, J, J, J, J, J, J, J, J, J, J, J], hpOf [], 0, 0⟩) else some (.ret, ⟨[.one (.c (.d (.v (.string (B (s)))))), J, .one (.c (.d (.v (.bool (false))))), J, J, J, J, J, J, J, J, J, J, J, J, J, J, J, J, J, J, J, J, J, J, J, J, J, J, J, J, J, J], hpOf [], 0, 0⟩)
  | 0, i, h0, hn => by
    have : maxLen = 9223372036854775807 := rfl
    refine lpW true (fun _ => W58.2) W58.1 rfl fun c hl => ?_; simp only [subR, chi, okW, List.length_cons, List.length_nil, Nat.reduceAdd, firstReg, and_true] at c hl; simp +contextual (maxSteps := 4000000) (disch := first | assumption | omega) only [go_sem, drop_end, List.all_nil, c, hl, pairsOk, ↓bin_eql, ↓bin_neq, Nat.reduceAdd, Nat.reduceSub, Nat.reduceMul, Nat.reduceBEq, Nat.reduceLeDiff, ↓ite_not, ↓ite_tt, ↓ite_ff, ↓if_pos, ↓if_neg, stpO_ite, grdO_some, stpD_ite, grdD_some, pickO_bool, Nat.reduceLT, Nat.reduceDiv, Nat.reduceMod, condK_bool, regK_ite, drwK_some, drwK_ite]
  | n + 1, i, h0, hn => by
    have : maxLen = 9223372036854775807 := rfl
    have ih := l06Name_loop s hm n (i + 1) (by omega) (by omega)
    refine lpW true (fun _ => W58.2) W58.1 rfl fun c hl => ?_; simp only [subR, chi, okW, List.length_cons, List.length_nil, Nat.reduceAdd, firstReg, and_true] at c hl; simp +contextual (maxSteps := 4000000) (disch := first | assumption | omega) only [go_sem, ih, drop_at, List.all_cons, l05Letter_ok, c, hl, pairsOk, ↓bin_eql, ↓bin_neq, Nat.reduceAdd, Nat.reduceSub, Nat.reduceMul, Nat.reduceBEq, Nat.reduceLeDiff, ↓ite_not, ↓ite_tt, ↓ite_ff, ↓if_pos, ↓if_neg, stpO_ite, grdO_some, stpD_ite, grdD_some, pickO_bool, Nat.reduceLT, Nat.reduceDiv, Nat.reduceMod, condK_bool, regK_ite, drwK_some, drwK_ite]
    clear ih
    grind
theorem l06Name_ok (s : List UInt8) (hm : s.length ≤ maxLen) : fnL Try.prog T L0 58 [.c (.d (.v (.string (B (s)))))] [] = some (.one (.c (.d (.v (.bool ((s.all (fun b => isLet b) && decide (1 ≤ (s.length : Int) ∧ (s.length : Int) ≤ 8)) && !decide (s ∈ words2)))))), []) := by
  have L1 := l06Name_loop1 [[66, 69, 71, 73, 78], [69, 78, 68], [112, 114, 105, 110, 116], [110, 101, 120, 116], [100, 117, 109, 112], [105, 102], [101, 108, 115, 101], [108, 101, 110, 103, 116, 104], [78, 70], [78, 82]] s rfl 10 0 (by omega) rfl
  have L2 := l06Name_loop s hm s.length 0 (by omega) (by omega)
  simp only [rS, List.map_cons, List.map_nil] at L1
  refine nfW true (fun _ => W58.2) W58.1 Try.func58 rfl rfl fun c ht hr => ?_; simp only [okW, List.length_cons, List.length_nil, Nat.reduceAdd, firstReg, and_true] at c; simp +contextual (maxSteps := 4000000) (disch := first | assumption | omega) only [go_sem, in_ok, L1, L2, words2, Int.toNat_zero, c, ht, hr, pairsOk, ↓bin_eql, ↓bin_neq, Nat.reduceAdd, Nat.reduceSub, Nat.reduceMul, Nat.reduceBEq, Nat.reduceLeDiff, ↓ite_not, ↓ite_tt, ↓ite_ff, ↓if_pos, ↓if_neg, stpO_ite, grdO_some, stpD_ite, grdD_some, pickO_bool, Nat.reduceLT, Nat.reduceDiv, Nat.reduceMod, condK_bool, regK_ite, drwK_some, drwK_ite]
  clear L1 L2
  grind
def signs : List UInt8 := [42, 43, 63, 124, 40, 41, 91, 93, 46, 94, 36, 92]
theorem l04Special_loop (ws : List UInt8) (b : UInt8) (hl : ws.length = 12) : ∀ (n : Nat) (i : Int), 0 ≤ i → i + n = ws.length →
    loopC Try.prog T (fnL Try.prog T L0) 97 (cq Try.f97 [0, 0, 1, 0, 1, 1]) ⟨[.one (.c (.d (.v (.int .u8 ((b.toNat : Int)))))), J, J, .one (.c (.d (.v (.string (B (ws)))))), .one (.c (.d (.v (.int .i64 (i))))), J, J, J, J, J, J, J, J, J, J, J], hpOf [], 0, 0⟩ =
      if (ws.drop i.toNat).any (fun c => decide ((c.toNat : Int) = (b.toNat : Int))) = true then some (.ret, ⟨[J, J, .one (.c (.d (.v (.bool (true))))), J, J, J, J, J, J, J, J, J, J, J, J, J], hpOf [], 0, 0⟩) else some (.exit 0, ⟨[J, J, J, J, J, J, J, J, J, J, J, J, J, J, J, J], hpOf [], 0, 0⟩)
  | 0, i, h0, hn => by
    refine lpW true (fun _ => W97.2) W97.1 rfl fun c hl => ?_; simp only [subR, chi, okW, List.length_cons, List.length_nil, Nat.reduceAdd, firstReg, and_true] at c hl; simp +contextual (maxSteps := 4000000) (disch := first | assumption | omega) only [go_sem, hl, drop_end, List.any_nil, c, hl, pairsOk, ↓bin_eql, ↓bin_neq, Nat.reduceAdd, Nat.reduceSub, Nat.reduceMul, Nat.reduceBEq, Nat.reduceLeDiff, ↓ite_not, ↓ite_tt, ↓ite_ff, ↓if_pos, ↓if_neg, stpO_ite, grdO_some, stpD_ite, grdD_some, pickO_bool, Nat.reduceLT, Nat.reduceDiv, Nat.reduceMod, condK_bool, regK_ite, drwK_some, drwK_ite]
  | n + 1, i, h0, hn => by
    have ih := l04Special_loop ws b hl n (i + 1) (by omega) (by omega)
    refine lpW true (fun _ => W97.2) W97.1 rfl fun c hl => ?_; simp only [subR, chi, okW, List.length_cons, List.length_nil, Nat.reduceAdd, firstReg, and_true] at c hl; simp +contextual (maxSteps := 4000000) (disch := first | assumption | omega) only [go_sem, hl, ih, drop_at, List.any_cons, c, hl, pairsOk, ↓bin_eql, ↓bin_neq, Nat.reduceAdd, Nat.reduceSub, Nat.reduceMul, Nat.reduceBEq, Nat.reduceLeDiff, ↓ite_not, ↓ite_tt, ↓ite_ff, ↓if_pos, ↓if_neg, stpO_ite, grdO_some, stpD_ite, grdD_some, pickO_bool, Nat.reduceLT, Nat.reduceDiv, Nat.reduceMod, condK_bool, regK_ite, drwK_some, drwK_ite]
    clear ih
    grind
theorem l04Special_ok (b : UInt8) : fnL Try.prog T L0 97 [.c (.d (.v (.int .u8 ((b.toNat : Int)))))] [] = some (.one (.c (.d (.v (.bool (signs.any (fun c => decide ((c.toNat : Int) = (b.toNat : Int)))))))), []) := by
  have L := l04Special_loop [42, 43, 63, 124, 40, 41, 91, 93, 46, 94, 36, 92] b rfl 12 0 (by omega) rfl
  rw [Int.toNat_zero, List.drop_zero] at L
  unfold signs
  generalize List.any ([42, 43, 63, 124, 40, 41, 91, 93, 46, 94, 36, 92] : List UInt8) (fun c : UInt8 => decide ((c.toNat : Int) = (b.toNat : Int))) = t at L ⊢
  cases t
  all_goals
    simp only [if_true, if_false, Bool.false_eq_true] at L
    refine nfW true (fun _ => W97.2) W97.1 Try.func97 rfl rfl fun c ht hr => ?_; simp only [okW, List.length_cons, List.length_nil, Nat.reduceAdd, firstReg, and_true] at c; simp +contextual (maxSteps := 4000000) (disch := first | assumption | omega) only [go_sem, L, c, ht, hr, pairsOk, ↓bin_eql, ↓bin_neq, Nat.reduceAdd, Nat.reduceSub, Nat.reduceMul, Nat.reduceBEq, Nat.reduceLeDiff, ↓ite_not, ↓ite_tt, ↓ite_ff, ↓if_pos, ↓if_neg, stpO_ite, grdO_some, stpD_ite, grdD_some, pickO_bool, Nat.reduceLT, Nat.reduceDiv, Nat.reduceMod, condK_bool, regK_ite, drwK_some, drwK_ite]
end
end Go.Vsi
