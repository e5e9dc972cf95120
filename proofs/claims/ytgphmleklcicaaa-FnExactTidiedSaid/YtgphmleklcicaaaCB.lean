/- So the interpreter may take their answers. -/
import Derived.Test.YtgphmleklcicaaaCA
import Derived.Test.YtgphmleklcicaaaP1
namespace Go.Vsi
open Go.Proofs
set_option maxRecDepth 100000
set_option linter.unusedVariables false
theorem eff_below {c : Cx} (h : RelH c) (hn : c.h = hpOf []) (w' : World) (hb : Go.RowKit.Below c.w.heap.size c.w w') : Eff' c { c with w := w' } := by
  have no : ∀ id b, c.h id = some b → False := fun id b h1 => by rw [hn, hpOf_nil] at h1; cases h1
  have same : ∀ g, g < c.w.heap.size → w'.heap[g]? = c.w.heap[g]? := fun g hg => hb.block g hg
  refine ⟨⟨fun _ h => h, fun _ _ => rfl, fun _ b _ h => ⟨b, h, Compat.refl b⟩, fun g hg => ⟨hg, same g (h.low g hg)⟩⟩, ⟨fun id b h1 => (no id b h1).elim, fun id b h1 => (no id b h1).elim, fun id _ b _ h1 => (no id b h1).elim, fun id b h1 => (no id b h1).elim, fun g hg => Nat.lt_of_lt_of_le (h.low g hg) hb.size, fun _ _ id b _ h1 => (no id b h1).elim, fun g a hg => ⟨Nat.lt_of_lt_of_le (h.olow g a hg).1 hb.size, Nat.lt_of_lt_of_le (h.olow g a hg).2 hb.size⟩⟩, hb.os, hb.tape, hb.output, hb.size, fun g hg _ => same g hg, fun g hg => .inl hg, fun g hg => .inl hg, fun _ _ _ _ => rfl, fun _ _ h => .inl h⟩
theorem plainIs {c : Cx} {x v : Value} (h : RelV c (.c (.d (.v x))) v) : v = x := by
  have h : RdD c.w c.N (.v x) v := h
  cases h
  rfl
theorem two_args {c : Cx} {a b : V} {vs : Array Value} (hs : vs.size = 2) (hv : CellsAt (RelV c) vs 0 [a, b]) : ∃ x y, vs = #[x, y] ∧ RelV c a x ∧ RelV c b y := by
  obtain ⟨x, hx, hx2⟩ := hv 0 a rfl
  obtain ⟨y, hy, hy2⟩ := hv 1 b rfl
  refine ⟨x, y, ?_, hx2, hy2⟩
  apply Array.ext_getElem?
  intro i
  match i with
  | 0 => simpa using hx
  | 1 => simpa using hy
  | n + 2 => rw [Array.getElem?_eq_none (by omega), Array.getElem?_eq_none (by simp)]
theorem lib_L0 : CallOK Try.prog L0 := fun f args bs r bs' h c vs hc hh hU hs hv => by
  unfold L0 at h
  split at h
  · split at h
    · rename_i s t
      split at h
      · rename_i hcnd
        obtain ⟨h1, h2, h3⟩ := hcnd
        obtain ⟨rfl, rfl⟩ := Prod.mk.inj (Option.some.inj h)
        obtain ⟨x, y, rfl, hx, hy⟩ := two_args hs hv
        obtain rfl := plainIs hx
        obtain rfl := plainIs hy
        refine (Ytgphmleklcicaaa.LibC.c52 s t c.w h2 h1 (fun j b hb => ?_)).mono ?_
        · have := List.all_eq_true.1 h3 b (List.mem_of_getElem? hb)
          simpa using this
        · rintro e w' ⟨rfl, hb⟩
          exact ⟨_, { c with w := w' }, rfl, rfl, hh, fun i hi => (hU i).1 hi, .v rfl, eff_below hc hh w' hb⟩
      · cases h
    · cases h
  · split at h
    · rename_i s k
      obtain ⟨rfl, rfl⟩ := Prod.mk.inj (Option.some.inj h)
      obtain ⟨x, y, rfl, hx, hy⟩ := two_args hs hv
      obtain rfl := plainIs hx
      obtain rfl := plainIs hy
      refine (Ytgphmleklcicaaa.LibC.c90 s k c.w).mono ?_
      rintro e w' ⟨rfl, rfl⟩
      exact ⟨_, c, rfl, rfl, hh, fun i hi => (hU i).1 hi, .v rfl, Eff'.refl hc⟩
    · cases h
  · cases h
end Go.Vsi
