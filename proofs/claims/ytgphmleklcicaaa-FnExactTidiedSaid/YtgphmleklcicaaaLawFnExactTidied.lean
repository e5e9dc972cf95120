/-
  PROVED: laws.FnExactTidied returns true for every program that is handed to it, and the argument reads behind the call as it read before (that is: the program's Tidied returns what the reference's returns).
  CONDITIONS: none beyond the given statement's own.
-/
import Derived.Test.YtgphmleklcicaaaRows
import Derived.Test.YtgphmleklcicaaaQ12
import Derived.Test.YtgphmleklcicaaaP11
import Derived.Test.YtgphmleklcicaaaP20
import Derived.Test.YtgphmleklcicaaaCB
import Derived.WalkKit
import Derived.ProofKit
import Derived.OpenShut
import Derived.ShutString
import Derived.ChangeOld
import Derived.Below
import Derived.Carry
import Derived.SizedLaws
import Derived.Lib.SmallJoins
namespace Go.Proofs.Ytgphmleklcicaaa.fnExactTidied
open Go.ChangeShapes Go.WideShapes Go.ChangeAt Go.RowKit Go.Joins Go.Deep
open Go.Vsi
theorem main (x : GProgram) (hx : x.ok) : fnL Try.prog Go.Vsi.T1 L1 3 [argV Try.prog 25 x.enc] [] = some (.one (.c (.d (.v (.bool true)))), []) := by
  rw [show argV Try.prog 25 x.enc = .agg (x.enc.map .d) from by unfold argV; rw [Y25.2.2.2.1]]
  exact law_main rdP readPattern_ok sreadPattern_ok rdP_le x hx
theorem nameT : NameOK Try.prog := nameOK_of (by kernel_rfl)
theorem mixT : Try.prog.follows .mixedOrders = true := by kernel_rfl
theorem drawT : DrawsOK Try.prog Go.Vsi.T := drawsOK_of (by kernel_rfl)
theorem drawT1 : DrawsOK Try.prog Go.Vsi.T1 := drawsOK_of (by kernel_rfl)
theorem lib_L1 : CallOK Try.prog L1 := fun f args bs r bs' h => by
  unfold L1 at h
  split at h
  · exact fnL_sound (T := Go.Vsi.T) (lib := L0) lib_L0 nameT mixT drawT f args bs r bs' h
  · cases h
theorem own : ownKnob Try.prog.godebug = none := by kernel_rfl
theorem laidOut : laidOutB Try.prog = true := by kernel_rfl
set_option maxRecDepth 100000 in
theorem lifted (os : Os) (started : os.Started) (H : Type) (enc : TypeId × Value → H) :
    ReturnsInHanded {} Try.checked os 3 .any (Rows.fnExactTidiedSpec.pre6 enc Try.prog Try.f3 Rows.fnExactTidiedRow.domain false) (Rows.fnExactTidiedSpec.post enc Try.prog Try.f3 false true false false) := by
  refine returnsInHanded_of_change_sized (C := Try.checked) own started (by kernel_rfl) Try.func3
    (ChangeSpec.witness6 (enc := enc) (C := Try.checked) false ⟨#[], #[.agg #[.slice none 0 0, .slice none 0 0]], []⟩ 8 (by kernel_rfl) (by kernel_rfl) (by kernel_rfl) (by kernel_rfl)) ?_
  intro W base args ds gs before hval0 hW hcnd hsz0 _
  have hval : ∀ (j : Nat) t v, Try.f3.params[j]? = some t → args[j]? = some v → Value.okWide Try.prog W .any base t v := hval0
  have hW' := hW
  obtain ⟨p, q, hA0, hV, rfl, hfz, hnd⟩ := hW
  have hA : DataW.TrodAll enc Try.prog W 0 (fun _ => true) true Try.f3.params.toList args.toList ds p := hA0
  rw [Try.params3] at hA hval
  obtain ⟨v0, vs0, d0, ds0, p0, q0, hargs, rfl, rfl, h0, r0⟩ := trodAll_cons hA
  obtain ⟨rfl, rfl, rfl⟩ := trodAll_nil r0
  obtain rfl : args = #[v0] := by cases args; simp_all
  obtain ⟨rfl, rfl⟩ := trodVars_none hV
  have hlt : ∀ x ∈ p0, x.block < W.heap.size := fun x hx => by simpa using hW'.lt x (by simpa using hx)
  obtain ⟨e0, w0, r0⟩ := arg_data (k := 8) (by kernel_rfl) (hval 0 25 v0 rfl rfl) h0
  obtain ⟨x0, rfl, o0⟩ := wt25 w0
  clear hA0 hval0 hsz0
  refine (show Calls Try.prog 3 #[v0] W (fun e w' => e = .returned (.bool true) ∧ Below W.heap.size W w') from ?_).mono fun e W' ⟨he, bel⟩ => ?_
  · refine calls_true (fnL_sound (T := Go.Vsi.T1) (lib := L1) lib_L1 nameT mixT drawT1) (main x0 o0) rfl fun j s hj => ?_
    cases j with
    | zero => simp at hj; subst hj; exact ⟨v0, rfl, r0⟩
    | succ j => simp at hj
  subst he
  exact ⟨_, rfl, _, _, _, [], _, [], hW', trodAll_mk1 (shut_bool Try.underlying4 _),
    (trodAll_cons_mk (Below.trod laidOut (by kernel_rfl) (of_decide_eq_true (by kernel_rfl)) h0 bel hlt) trodAll_mk0), rfl, bel.frame _, fun h => by cases h⟩
theorem over : Rows.fnExactTidiedRow.holds Try.pinned (OpenSpec.ofChange Rows.fnExactTidiedSpec) :=
  OpenClaim.holds_of_wide 3 Try.f3 rfl rfl rfl rfl rfl rfl rfl ⟨rfl, rfl, rfl, rfl, rfl⟩ rfl rfl rfl rfl rfl (by kernel_rfl) Try.func3 (by kernel_rfl)
    (of_decide_eq_true (by kernel_rfl)) (by unfold Func.isWrapper; first | (rw [if_pos (by decide +kernel)]; kernel_rfl) | (rw [if_neg (by decide +kernel)]; exact ⟨rfl, rfl⟩))
    (fun os started H enc _ => lifted os started H enc)
theorem proved : Rows.FnExactTidiedSaid := over
end Go.Proofs.Ytgphmleklcicaaa.fnExactTidied
namespace Go.Proofs.Ytgphmleklcicaaa
/-- The row, under a short name, for the claim. -/
theorem fnExactTidied_holds : Rows.FnExactTidiedSaid := fnExactTidied.proved
end Go.Proofs.Ytgphmleklcicaaa
