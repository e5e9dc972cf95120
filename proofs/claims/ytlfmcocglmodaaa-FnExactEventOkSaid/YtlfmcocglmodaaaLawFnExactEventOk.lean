/- What is proved: the program's EventOk and the reference's EventOk give the same answer for every event; no condition. -/
import Derived.Test.YtlfmcocglmodaaaRows
import Derived.Test.YtlfmcocglmodaaaPFnExactEventOkx1
import Derived.WalkKit
import Derived.ProofKit
import Derived.OpenShut
import Derived.ShutString
import Derived.ChangeOld
import Derived.Below
import Derived.SizedLaws
import Derived.Lib.SmallJoins
namespace Go.Proofs.Ytlfmcocglmodaaa.fnExactEventOk
open Go.ChangeShapes Go.WideShapes Go.ChangeAt Go.RowKit Go.Joins Go.Deep
open PFnExactEventOk

theorem pure (a b c : Int) : laws_FnExactEventOk.f a b c = some true := by
  have hi : ∀ x y z, spec_l01In.f x y z = some (decide (y ≤ x ∧ x ≤ z)) := by
    intro x y z
    unfold spec_l01In.f
    split
    · congr 1; simp; omega
    · congr 1; simp; omega
  have hw : ∀ x y z, impl_within.f x y z = some (decide (y ≤ x ∧ x ≤ z)) := by
    intro x y z
    unfold impl_within.f
    split
    · congr 1; simp; omega
    · congr 1; simp; omega
  have he : spec_EventOk.f a b c = impl_EventOk.f a b c := by
    unfold spec_EventOk.f impl_EventOk.f impl_isWorker.f
    simp only [hi, hw, Option.bind_some]
  have hs : ∃ r, impl_EventOk.f a b c = some r := by
    unfold impl_EventOk.f impl_isWorker.f
    simp only [hw, Option.bind_some]
    repeat' split
    all_goals exact ⟨_, rfl⟩
  obtain ⟨r, hr⟩ := hs
  simp [laws_FnExactEventOk.f, laws_toEvent.f, he, hr]

theorem own : ownKnob Try.prog.godebug = none := by kernel_rfl
set_option maxRecDepth 100000 in
theorem lifted (os : Os) (started : os.Started) (H : Type) (enc : TypeId × Value → H) :
    ReturnsInHanded {} Try.checked os 3 .any (Rows.fnExactEventOkSpec.pre6 enc Try.prog Try.f3 Rows.fnExactEventOkRow.domain false) (Rows.fnExactEventOkSpec.post enc Try.prog Try.f3 false true false false) := by
  refine returnsInHanded_of_change_sized (C := Try.checked) own started (by kernel_rfl) Try.func3
    (ChangeSpec.witness6 (enc := enc) (C := Try.checked) false ⟨#[], #[.agg #[.int .i64 0, .int .i64 0, .int .i64 0]], []⟩ 8 (by kernel_rfl) (by kernel_rfl) (by kernel_rfl) (by kernel_rfl)) ?_
  intro W base args ds gs before hval0 hW hcnd hsz0 _
  have hval : ∀ (j : Nat) t v, Try.f3.params[j]? = some t → args[j]? = some v → Value.okWide Try.prog W .any base t v := hval0
  have hW' := hW
  obtain ⟨p, q, hA0, hV, rfl, hfz, hnd⟩ := hW
  have hA : DataW.TrodAll enc Try.prog W 0 (fun _ => true) true Try.f3.params.toList args.toList ds p := hA0
  rw [Try.params3] at hA hval
  obtain ⟨v0, vs0, d0, ds0, p0, q0, hargs, rfl, rfl, h0, r0⟩ := trodAll_cons hA
  obtain ⟨rfl, rfl, rfl⟩ := trodAll_nil r0
  obtain rfl : args = #[v0] := by cases args; simp_all
  obtain ⟨rfl, rfl⟩ := trodVars_none hV
  obtain ⟨x0, x1, x2, y0, y1, y2, n, rfl, rfl, rfl, t0, t1, t2⟩ := open_agg3 Try.underlying23 (by kernel_rfl) (by kernel_rfl) (hval 0 23 v0 rfl rfl) h0
  obtain ⟨a0, hx0, rfl, w0⟩ := DataW.trod_int Try.underlying3 t0
  obtain ⟨a1, hx1, rfl, w1⟩ := DataW.trod_int Try.underlying3 t1
  obtain ⟨a2, hx2, rfl, w2⟩ := DataW.trod_int Try.underlying3 t2
  obtain rfl : x0 = .int .i64 a0 := by simpa using hx0
  obtain rfl : x1 = .int .i64 a1 := by simpa using hx1
  obtain rfl : x2 = .int .i64 a2 := by simpa using hx2
  clear hA0 hval0 hsz0
  refine (laws_FnExactEventOk.calls a0 a1 a2 true W (pure a0 a1 a2)).mono fun e W' ⟨he, bel⟩ => ?_
  subst he
  exact ⟨_, rfl, _, _, _, [], _, [], hW', trodAll_mk1 (shut_bool Try.underlying4 _),
    (trodAll_cons_mk (shut_agg3 Try.underlying23 (by kernel_rfl) (by kernel_rfl) ⟨1, trod_int_mk 0 Try.underlying3 w0⟩ ⟨1, trod_int_mk 0 Try.underlying3 w1⟩ ⟨1, trod_int_mk 0 Try.underlying3 w2⟩) trodAll_mk0), rfl, bel.frame _, fun h => by cases h⟩
theorem over : Rows.fnExactEventOkRow.holds Try.pinned (OpenSpec.ofChange Rows.fnExactEventOkSpec) :=
  OpenClaim.holds_of_wide 3 Try.f3 rfl rfl rfl rfl rfl rfl rfl ⟨rfl, rfl, rfl, rfl, rfl⟩ rfl rfl rfl rfl rfl (by kernel_rfl) Try.func3 (by kernel_rfl)
    (of_decide_eq_true (by kernel_rfl)) (by unfold Func.isWrapper; first | (rw [if_pos (by decide +kernel)]; kernel_rfl) | (rw [if_neg (by decide +kernel)]; exact ⟨rfl, rfl⟩))
    (fun os started H enc _ => lifted os started H enc)
theorem proved : Rows.FnExactEventOkSaid := over
#print axioms proved
end Go.Proofs.Ytlfmcocglmodaaa.fnExactEventOk
namespace Go.Proofs.Ytlfmcocglmodaaa
/-- The row, under a short name, for the claim. -/
theorem fnExactEventOk_holds : Rows.FnExactEventOkSaid := fnExactEventOk.proved
end Go.Proofs.Ytlfmcocglmodaaa
