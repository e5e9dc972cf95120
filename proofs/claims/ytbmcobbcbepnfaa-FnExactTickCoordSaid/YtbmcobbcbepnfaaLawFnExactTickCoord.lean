/-
  PROVED: laws.FnExactTickCoord returns true for every coord and number that are handed to it, and the arguments read behind the call as they read before (that is: the program's TickCoord returns what the reference's returns).
  CONDITIONS: none beyond the given statement's own.
-/
import Derived.Test.YtbmcobbcbepnfaaRows
import Derived.Test.YtbmcobbcbepnfaaP17
import Derived.WalkKit
import Derived.ProofKit
import Derived.OpenShut
import Derived.ShutString
import Derived.ChangeOld
import Derived.Below
import Derived.Carry
import Derived.SizedLaws
import Derived.Lib.SmallJoins
namespace Go.Proofs.Ytbmcobbcbepnfaa.fnExactTickCoord
open Go.ChangeShapes Go.WideShapes Go.ChangeAt Go.RowKit Go.Joins Go.Deep
open Go.Vsi
theorem main (x : GCoord) (n : Int) (hx : x.ok) : fnL Try.prog Go.Vsi.T L0 3 [argV Try.prog 32 x.enc, argV Try.prog 3 [.v (.int .i64 n)]] [] = some (.one (.c (.d (.v (.bool true)))), []) := by
  rw [show argV Try.prog 32 x.enc = .agg (x.enc.map .d) from by unfold argV; rw [A32], show argV Try.prog 3 [.v (.int .i64 n)] = .c (.d (.v (.int .i64 n))) from by unfold argV; rw [A3]]
  exact law_all x n hx
theorem lib_L0 : CallOK Try.prog L0 := fun f args bs r bs' h => by
  unfold L0 at h
  cases h
theorem own : ownKnob Try.prog.godebug = none := by kernel_rfl
theorem laidOut : laidOutB Try.prog = true := by kernel_rfl
set_option maxRecDepth 100000 in
theorem lifted (os : Os) (started : os.Started) (H : Type) (enc : TypeId × Value → H) :
    ReturnsInHanded {} Try.checked os 3 .any (Rows.fnExactTickCoordSpec.pre6 enc Try.prog Try.f3 Rows.fnExactTickCoordRow.domain false) (Rows.fnExactTickCoordSpec.post enc Try.prog Try.f3 false true false false) := by
  refine returnsInHanded_of_change_sized (C := Try.checked) own started (by kernel_rfl) Try.func3
    (ChangeSpec.witness6 (enc := enc) (C := Try.checked) false ⟨#[], #[.agg #[.slice none 0 0, .slice none 0 0, .int .i64 0, .int .i64 0, .int .i64 0, .slice none 0 0, .slice none 0 0, .slice none 0 0, .string ⟨#[]⟩, .int .i64 0, .slice none 0 0, .int .i64 0, .int .i64 0, .bool false, .slice none 0 0, .slice none 0 0, .string ⟨#[]⟩], .int .i64 0], []⟩ 8 (by kernel_rfl) (by kernel_rfl) (by kernel_rfl) (by kernel_rfl)) ?_
  intro W base args ds gs before hval0 hW hcnd hsz0 _
  have hval : ∀ (j : Nat) t v, Try.f3.params[j]? = some t → args[j]? = some v → Value.okWide Try.prog W .any base t v := hval0
  have hW' := hW
  obtain ⟨p, q, hA0, hV, rfl, hfz, hnd⟩ := hW
  have hA : DataW.TrodAll enc Try.prog W 0 (fun _ => true) true Try.f3.params.toList args.toList ds p := hA0
  rw [Try.params3] at hA hval
  obtain ⟨v0, vs0, d0, ds0, p0, q0, hargs, rfl, rfl, h0, r0⟩ := trodAll_cons hA
  obtain ⟨v1, vs1, d1, ds1, p1, q1, rfl, rfl, rfl, h1, r1⟩ := trodAll_cons r0
  obtain ⟨rfl, rfl, rfl⟩ := trodAll_nil r1
  obtain rfl : args = #[v0, v1] := by cases args; simp_all
  obtain ⟨rfl, rfl⟩ := trodVars_none hV
  have hlt : ∀ x ∈ p0, x.block < W.heap.size := fun x hx => by simpa using hW'.lt x (by simp [hx])
  have hlt1 : ∀ x ∈ p1, x.block < W.heap.size := fun x hx => by simpa using hW'.lt x (by simp [hx])
  obtain ⟨e0, w0, r0⟩ := arg_data (k := 8) (by kernel_rfl) (hval 0 32 v0 rfl rfl) h0
  obtain ⟨e1, w1, r1⟩ := arg_data (k := 8) (by kernel_rfl) (hval 1 3 v1 rfl rfl) h1
  obtain ⟨x0, rfl, o0⟩ := wt32 w0
  obtain ⟨x1, rfl, o1⟩ := wt3 w1
  clear hA0 hval0 hsz0
  refine (show Calls Try.prog 3 #[v0, v1] W (fun e w' => e = .returned (.bool true) ∧ Below W.heap.size W w') from ?_).mono fun e W' ⟨he, bel⟩ => ?_
  · refine calls_true (fnL_sound (T := Go.Vsi.T) (lib := L0) lib_L0 nameT mixT drawT) (main x0 x1 o0) rfl fun j s hj => ?_
    cases j with
    | zero => simp at hj; subst hj; exact ⟨v0, rfl, r0⟩
    | succ j =>
      cases j with
      | zero => simp at hj; subst hj; exact ⟨v1, rfl, r1⟩
      | succ j => simp at hj
  subst he
  exact ⟨_, rfl, _, _, _, [], _, [], hW', trodAll_mk1 (shut_bool Try.underlying4 _),
    (trodAll_cons_mk (Below.trod laidOut (by kernel_rfl) (of_decide_eq_true (by kernel_rfl)) h0 bel hlt)
      (trodAll_cons_mk (Below.trod laidOut (by kernel_rfl) (of_decide_eq_true (by kernel_rfl)) h1 bel hlt1) trodAll_mk0)), rfl, bel.frame _, fun h => by cases h⟩
theorem over : Rows.fnExactTickCoordRow.holds Try.pinned (OpenSpec.ofChange Rows.fnExactTickCoordSpec) :=
  OpenClaim.holds_of_wide 3 Try.f3 rfl rfl rfl rfl rfl rfl rfl ⟨rfl, rfl, rfl, rfl, rfl⟩ rfl rfl rfl rfl rfl (by kernel_rfl) Try.func3 (by kernel_rfl)
    (of_decide_eq_true (by kernel_rfl)) (by unfold Func.isWrapper; first | (rw [if_pos (by decide +kernel)]; kernel_rfl) | (rw [if_neg (by decide +kernel)]; exact ⟨rfl, rfl⟩))
    (fun os started H enc _ => lifted os started H enc)
theorem proved : Rows.FnExactTickCoordSaid := over
end Go.Proofs.Ytbmcobbcbepnfaa.fnExactTickCoord
namespace Go.Proofs.Ytbmcobbcbepnfaa
/-- The row, under a short name, for the claim. -/
theorem fnExactTickCoord_holds : Rows.FnExactTickCoordSaid := fnExactTickCoord.proved
end Go.Proofs.Ytbmcobbcbepnfaa
