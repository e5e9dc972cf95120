/- What is proved: the program's TickWorker and the reference's TickWorker give the same for every worker; no condition (the law itself speaks only of workers whose Result has at most 2 to the 20 bytes; of the others it says true). -/
import Derived.Test.YtlfmcocglmodaaaRows
import Derived.Test.YtlfmcocglmodaaaPFnExactTickWorkerx2
import Derived.WalkKit
import Derived.ProofKit
import Derived.OpenShut
import Derived.ShutString
import Derived.ChangeOld
import Derived.Below
import Derived.Carry
import Derived.SizedLaws
import Derived.Lib.SmallJoins
namespace Go.Proofs.Ytlfmcocglmodaaa.fnExactTickWorker
open Go.ChangeShapes Go.WideShapes Go.ChangeAt Go.RowKit Go.Joins Go.Deep
open PFnExactTickWorker Go.Proofs.YtlfmcocglmodaaaW.PrintWords Go.Proofs.YtlfmcocglmodaaaW.PrintLast Go.Proofs.YtlfmcocglmodaaaW.PrintMore

section
variable {H : Type} {enc : TypeId × Value → H} {w : World} {base : Nat} {spare : Nat → Bool} {held : Bool}
/-- A struct of one-cell fields, whatever their number: each field is one cell, and is read by itself. -/
theorem fields_open {P : Program} {r : Reach} {b0 : Nat} {t : TypeId} {fs : Array Field} {v : Value} {d : DataW H} {p : List MemPlace} (hs : P.underlying t = some (.struct fs)) (hone : oneCellFields P fs = true)
    (hv : Value.okWide P w r b0 t v) (h : DataW.Trod enc P w base spare held t v d p) :
    ∃ (cs : Array Value) (n : Nat), v = .agg cs ∧ cs.size = P.cellsOf t ∧ ∀ i f, fs[i]? = some f → i < cs.size → ∃ c y, cs[i]? = some c ∧ DataW.trod enc P w base spare held n f.type [c] = some y := by
  obtain ⟨cs, rfl, hsz⟩ := okWide_struct hs hv
  obtain ⟨fuel, hf⟩ := h
  obtain ⟨xs, n, _, _, _, hlen, hg⟩ := DataW.trod_struct hs hf
  refine ⟨cs, n, rfl, hsz, fun i f hi hlt => ?_⟩
  obtain ⟨o, k⟩ := hone_of hone i f hi
  have g := hg i f hi
  rw [o, k] at g
  have hx : i < xs.length := by
    have := (Array.getElem?_eq_some_iff.1 hi).1
    omega
  refine ⟨cs[i], xs[i], by simp, ?_⟩
  rw [List.getElem?_eq_getElem hx] at g
  rw [← g]
  congr 1
  simp only [Value.cells]
  rw [List.drop_eq_getElem_cons (by simpa using hlt)]
  simp
set_option maxRecDepth 100000 in
/-- A worker that can be read is five plain values. -/
theorem worker_open {r : Reach} {b0 : Nat} {v : Value} {d : DataW H} {p : List MemPlace} (hv : Value.okWide Try.prog w r b0 33 v) (h : DataW.Trod enc Try.prog w base spare held 33 v d p) :
    ∃ (i : Int) (u : Bool) (t q : Int) (s : ByteArray), v = .agg #[.int .i64 i, .bool u, .int .i64 t, .int .i64 q, .string s] := by
  obtain ⟨⟨cs⟩, n, rfl, hsz, hg⟩ := fields_open Try.underlying33 (by kernel_rfl) hv h
  have hC : Try.prog.cellsOf 33 = 5 := by kernel_rfl
  rw [hC] at hsz
  have hsz5 : cs.length = 5 := hsz
  match cs, hsz5 with
  | [c0, c1, c2, c3, c4], _ =>
    obtain ⟨_, _, e0, g0⟩ := hg 0 _ rfl (by simp)
    obtain ⟨_, _, e1, g1⟩ := hg 1 _ rfl (by simp)
    obtain ⟨_, _, e2, g2⟩ := hg 2 _ rfl (by simp)
    obtain ⟨_, _, e3, g3⟩ := hg 3 _ rfl (by simp)
    obtain ⟨_, _, e4, g4⟩ := hg 4 _ rfl (by simp)
    obtain ⟨i, q0, _, _⟩ := DataW.trod_int Try.underlying3 g0
    obtain ⟨u, q1, _⟩ := DataW.trod_bool Try.underlying4 g1
    obtain ⟨t, q2, _, _⟩ := DataW.trod_int Try.underlying3 g2
    obtain ⟨q, q3, _, _⟩ := DataW.trod_int Try.underlying3 g3
    obtain ⟨s, q4, _, _⟩ := DataW.trod_string Try.underlying9 g4
    simp only [List.getElem?_toArray, List.getElem?_cons_zero, List.getElem?_cons_succ, Option.some.injEq, List.cons.injEq, and_true] at e0 e1 e2 e3 e4 q0 q1 q2 q3 q4
    exact ⟨i, u, t, q, s, by rw [e0, e1, e2, e3, e4, q0, q1, q2, q3, q4]⟩
end

set_option linter.unusedSimpArgs false
theorem eqm (a b c d : Int) (s : ByteArray) : laws_eqMessage.f a b c d s a b c d s = some true := by
  simp [laws_eqMessage.f]
theorem eq0 : laws_eqMessageS.f 4 [] [] = some true := by
  simp [laws_eqMessageS.f, laws_eqMessageS.l0]
theorem wrap_one : wrap64 1 = 1 := by simp [wrap64]
theorem eq1 (x : S71) : laws_eqMessageS.f 4 [x] [x] = some true := by
  simp [laws_eqMessageS.f, laws_eqMessageS.l0, rd_T71, eqm, wrap_one]
theorem mark_one : laws_markText.f 3 5 = some (⟨#[109]⟩ ++ (strOfNums [53] ++ ⟨#[]⟩)) := by
  have e1 : (ByteArray.mk #[53]).size = 1 := rfl
  have e0 : (ByteArray.mk #[]).size = 0 := rfl
  simp [laws_markText.f, laws_markText.l0, wrap64, strOfNums, e1, e0]
theorem marked (x : S71) : laws_markMessageS.f 4 [x] 1 = some (6, [⟨1, 2, 3, 4, ⟨#[109]⟩ ++ (strOfNums [53] ++ ⟨#[]⟩)⟩]) := by
  have e := mark_one
  simp [laws_markMessageS.f, laws_markMessageS.l0, rd_T71, wrap64, e]
theorem held : laws_heldMessageS.f 4 [⟨1, 2, 3, 4, ⟨#[109]⟩ ++ (strOfNums [53] ++ ⟨#[]⟩)⟩] 1 = some 6 := by
  have e := mark_one
  simp [laws_heldMessageS.f, laws_heldMessageS.l0, rd_T71, wrap64, e]
theorem marked0 : laws_markMessageS.f 4 [] 1 = some (1, []) := by
  simp [laws_markMessageS.f, laws_markMessageS.l0]
theorem held0 : laws_heldMessageS.f 4 [] 1 = some 1 := by
  simp [laws_heldMessageS.f, laws_heldMessageS.l0]
theorem pure (a : Int) (b : Bool) (c d : Int) (s : ByteArray) : laws_FnExactTickWorker.f 4 a b c d s = some true := by
  have hz : ∃ r, laws_szWorker.f a b c d s 1048576 = some r := by
    unfold laws_szWorker.f
    split <;> exact ⟨_, rfl⟩
  obtain ⟨r, hr⟩ := hz
  have hs : spec_TickWorker.f a b c d s = impl_TickWorker.f a b c d s := rfl
  have hone : ∀ l : List S71, (l = [] ∨ ∃ x, l = [x]) → impl_TickWorker.f a b c d s = some l → laws_FnExactTickWorker.f 4 a b c d s = some true := by
    intro l hl h
    simp only [laws_FnExactTickWorker.f, hr, Option.bind_some, laws_toWorker.f, hs, h]
    rcases hl with rfl | ⟨x, rfl⟩
    · simp only [eq0, marked0, held0, Option.bind_some]
      split <;> simp
    · simp only [eq1, marked, held, Option.bind_some]
      split <;> simp
  unfold impl_TickWorker.f at hone
  by_cases h1 : b = true
  · by_cases h2 : s.toList = ([] : List UInt8)
    · exact hone [⟨1, a, 0, 0, ⟨#[]⟩⟩] (.inr ⟨_, rfl⟩) (by rw [if_pos h1, if_pos h2])
    · exact hone [⟨3, a, c, d, s⟩] (.inr ⟨_, rfl⟩) (by rw [if_pos h1, if_neg h2])
  · exact hone [] (.inl rfl) (by rw [if_neg h1])

theorem own : ownKnob Try.prog.godebug = none := by kernel_rfl
theorem laidOut : laidOutB Try.prog = true := by kernel_rfl
set_option maxRecDepth 100000 in
theorem lifted (os : Os) (started : os.Started) (H : Type) (enc : TypeId × Value → H) :
    ReturnsInHanded {} Try.checked os 6 .any (Rows.fnExactTickWorkerSpec.pre6 enc Try.prog Try.f6 Rows.fnExactTickWorkerRow.domain false) (Rows.fnExactTickWorkerSpec.post enc Try.prog Try.f6 false true false false) := by
  refine returnsInHanded_of_change_sized (C := Try.checked) own started (by kernel_rfl) Try.func6
    (ChangeSpec.witness6 (enc := enc) (C := Try.checked) false ⟨#[], #[.agg #[.int .i64 0, .bool false, .int .i64 0, .int .i64 0, .string ⟨#[]⟩]], []⟩ 8 (by kernel_rfl) (by kernel_rfl) (by kernel_rfl) (by kernel_rfl)) ?_
  intro W base args ds gs before hval0 hW hcnd hsz0 _
  have hval : ∀ (j : Nat) t v, Try.f6.params[j]? = some t → args[j]? = some v → Value.okWide Try.prog W .any base t v := hval0
  have hW' := hW
  obtain ⟨p, q, hA0, hV, rfl, hfz, hnd⟩ := hW
  have hA : DataW.TrodAll enc Try.prog W 0 (fun _ => true) true Try.f6.params.toList args.toList ds p := hA0
  rw [Try.params6] at hA hval
  obtain ⟨v0, vs0, d0, ds0, p0, q0, hargs, rfl, rfl, h0, r0⟩ := trodAll_cons hA
  obtain ⟨rfl, rfl, rfl⟩ := trodAll_nil r0
  obtain rfl : args = #[v0] := by cases args; simp_all
  obtain ⟨rfl, rfl⟩ := trodVars_none hV
  have hlt : ∀ x ∈ p0, x.block < W.heap.size := fun x hx => by simpa using hW'.lt x (by simpa using hx)
  obtain ⟨a0, a1, a2, a3, a4, hv0⟩ := worker_open (hval 0 33 v0 rfl rfl) h0
  clear hA0 hval0 hsz0
  refine (show Calls Try.prog 6 #[v0] W (fun e w' => e = .returned (.bool true) ∧ Below W.heap.size W w') from ?_).mono fun e W' ⟨he, bel⟩ => ?_
  · subst hv0
    exact laws_FnExactTickWorker.calls 4 a0 a1 a2 a3 a4 true W (pure a0 a1 a2 a3 a4)
  subst he
  exact ⟨_, rfl, _, _, _, [], _, [], hW', trodAll_mk1 (shut_bool Try.underlying4 _),
    (trodAll_cons_mk (Below.trod laidOut (by kernel_rfl) (of_decide_eq_true (by kernel_rfl)) h0 bel hlt) trodAll_mk0), rfl, bel.frame _, fun h => by cases h⟩
theorem over : Rows.fnExactTickWorkerRow.holds Try.pinned (OpenSpec.ofChange Rows.fnExactTickWorkerSpec) :=
  OpenClaim.holds_of_wide 6 Try.f6 rfl rfl rfl rfl rfl rfl rfl ⟨rfl, rfl, rfl, rfl, rfl⟩ rfl rfl rfl rfl rfl (by kernel_rfl) Try.func6 (by kernel_rfl)
    (of_decide_eq_true (by kernel_rfl)) (by unfold Func.isWrapper; first | (rw [if_pos (by decide +kernel)]; kernel_rfl) | (rw [if_neg (by decide +kernel)]; exact ⟨rfl, rfl⟩))
    (fun os started H enc _ => lifted os started H enc)
theorem proved : Rows.FnExactTickWorkerSaid := over
#print axioms proved
end Go.Proofs.Ytlfmcocglmodaaa.fnExactTickWorker
namespace Go.Proofs.Ytlfmcocglmodaaa
/-- The row, under a short name, for the claim. -/
theorem fnExactTickWorker_holds : Rows.FnExactTickWorkerSaid := fnExactTickWorker.proved
end Go.Proofs.Ytlfmcocglmodaaa
