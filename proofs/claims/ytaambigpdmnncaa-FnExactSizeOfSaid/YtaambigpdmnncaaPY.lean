/- Structs of the program as plain structures; their cells. Printed by our own program (wip/tool/types.py). -/
import Derived.Test.YtaambigpdmnncaaPT
import Derived.Test.YtaambigpdmnncaaV4
namespace Go.Vsi
open Go.Proofs
set_option maxRecDepth 100000
structure GNode where
  Op : Int
  Text : List UInt8
  Kids : List Int
def GNode.enc (x : GNode) : List D := [.v (.int .i64 x.Op), .v (.string (B x.Text)), .sl 1 (x.Kids.map fun y => [.v (.int .i64 y)])]
def GNode.ok (x : GNode) : Prop := (Lit.int .i64 x.Op).wf = true ∧ x.Text.length ≤ maxLen ∧ (x.Kids.length ≤ maxLen ∧ ∀ y ∈ x.Kids, (Lit.int .i64 y).wf = true)
structure GRule where
  When : Int
  If : Int
  Do : Int
def GRule.enc (x : GRule) : List D := [.v (.int .i64 x.When), .v (.int .i64 x.If), .v (.int .i64 x.Do)]
def GRule.ok (x : GRule) : Prop := (Lit.int .i64 x.When).wf = true ∧ (Lit.int .i64 x.If).wf = true ∧ (Lit.int .i64 x.Do).wf = true
structure GProgram where
  Nodes : List GNode
  Rules : List GRule
def GProgram.enc (x : GProgram) : List D := [.sl 3 (x.Nodes.map fun y => GNode.enc y), .sl 3 (x.Rules.map fun y => GRule.enc y)]
def GProgram.ok (x : GProgram) : Prop := (x.Nodes.length ≤ maxLen ∧ ∀ y ∈ x.Nodes, GNode.ok y) ∧ (x.Rules.length ≤ maxLen ∧ ∀ y ∈ x.Rules, GRule.ok y)
structure GPiece where
  Op : Int
  Text : List UInt8
  Kids : List Int
def GPiece.enc (x : GPiece) : List D := [.v (.int .i64 x.Op), .v (.string (B x.Text)), .sl 1 (x.Kids.map fun y => [.v (.int .i64 y)])]
def GPiece.ok (x : GPiece) : Prop := (Lit.int .i64 x.Op).wf = true ∧ x.Text.length ≤ maxLen ∧ (x.Kids.length ≤ maxLen ∧ ∀ y ∈ x.Kids, (Lit.int .i64 y).wf = true)
structure GPattern where
  Pieces : List GPiece
def GPattern.enc (x : GPattern) : List D := [.sl 3 (x.Pieces.map fun y => GPiece.enc y)]
def GPattern.ok (x : GPattern) : Prop := (x.Pieces.length ≤ maxLen ∧ ∀ y ∈ x.Pieces, GPiece.ok y)

theorem rows_map {α : Type} {W : List D → Prop} {enc : α → List D} {ok : α → Prop} (h : ∀ r, W r → ∃ x, r = enc x ∧ ok x) : ∀ rows : List (List D), (∀ r ∈ rows, W r) → ∃ xs : List α, rows = xs.map enc ∧ ∀ x ∈ xs, ok x
  | [], _ => ⟨[], rfl, by simp⟩
  | r :: rs, hr => by
    obtain ⟨x, rfl, hx⟩ := h r (hr r (by simp))
    obtain ⟨xs, rfl, hxs⟩ := rows_map h rs fun r h => hr r (by simp [h])
    exact ⟨x :: xs, rfl, by simp; exact ⟨hx, hxs⟩⟩
theorem wt3 {k : Nat} {ds : List D} (h : WT Try.prog k 3 ds) : ∃ x : Int, ds = [.v (.int .i64 x)] ∧ (Lit.int .i64 x).wf = true := by
  cases k with
  | zero => exact h.elim
  | succ k =>
  simp only [WT, Try.underlying3] at h
  exact h
theorem wt9 {k : Nat} {ds : List D} (h : WT Try.prog k 9 ds) : ∃ x : List UInt8, ds = [.v (.string (B x))] ∧ x.length ≤ maxLen := by
  cases k with
  | zero => exact h.elim
  | succ k =>
  simp only [WT, Try.underlying9] at h
  obtain ⟨s, rfl, h⟩ := h
  exact ⟨s.data.toList, rfl, h⟩
theorem wt47 {k : Nat} {ds : List D} (h : WT Try.prog k 47 ds) : ∃ x : List Int, ds = [.sl 1 (x.map fun y => [.v (.int .i64 y)])] ∧ (x.length ≤ maxLen ∧ ∀ y ∈ x, (Lit.int .i64 y).wf = true) := by
  cases k with
  | zero => exact h.elim
  | succ k =>
  simp only [WT, Try.underlying47] at h
  obtain ⟨rows, rfl, hl, hr⟩ := h
  obtain ⟨xs, rfl, hxs⟩ := rows_map (fun r hr => wt3 hr) rows hr
  refine ⟨xs, ?_, by simpa using hl, hxs⟩
  rw [C3]
theorem wt49 {k : Nat} {ds : List D} (h : WT Try.prog k 49 ds) : ∃ x : GNode, ds = GNode.enc x ∧ GNode.ok x := by
  cases k with
  | zero => exact h.elim
  | succ k =>
  simp only [WT, Try.underlying49] at h
  simp only [List.map_cons, List.map_nil, WTF] at h
  obtain ⟨a0, b0, rfl, h0, hr0⟩ := h
  obtain ⟨a1, b1, rfl, h1, hr1⟩ := hr0
  obtain ⟨a2, b2, rfl, h2, hr2⟩ := hr1
  subst hr2
  obtain ⟨x0, rfl, o0⟩ := wt3 h0
  obtain ⟨x1, rfl, o1⟩ := wt9 h1
  obtain ⟨x2, rfl, o2⟩ := wt47 h2
  exact ⟨⟨x0, x1, x2⟩, rfl, o0, o1, o2⟩
theorem wt22 {k : Nat} {ds : List D} (h : WT Try.prog k 22 ds) : ∃ x : List GNode, ds = [.sl 3 (x.map fun y => GNode.enc y)] ∧ (x.length ≤ maxLen ∧ ∀ y ∈ x, GNode.ok y) := by
  cases k with
  | zero => exact h.elim
  | succ k =>
  simp only [WT, Try.underlying22] at h
  obtain ⟨rows, rfl, hl, hr⟩ := h
  obtain ⟨xs, rfl, hxs⟩ := rows_map (fun r hr => wt49 hr) rows hr
  refine ⟨xs, ?_, by simpa using hl, hxs⟩
  rw [C49]
theorem wt58 {k : Nat} {ds : List D} (h : WT Try.prog k 58 ds) : ∃ x : GRule, ds = GRule.enc x ∧ GRule.ok x := by
  cases k with
  | zero => exact h.elim
  | succ k =>
  simp only [WT, Try.underlying58] at h
  simp only [List.map_cons, List.map_nil, WTF] at h
  obtain ⟨a0, b0, rfl, h0, hr0⟩ := h
  obtain ⟨a1, b1, rfl, h1, hr1⟩ := hr0
  obtain ⟨a2, b2, rfl, h2, hr2⟩ := hr1
  subst hr2
  obtain ⟨x0, rfl, o0⟩ := wt3 h0
  obtain ⟨x1, rfl, o1⟩ := wt3 h1
  obtain ⟨x2, rfl, o2⟩ := wt3 h2
  exact ⟨⟨x0, x1, x2⟩, rfl, o0, o1, o2⟩
theorem wt23 {k : Nat} {ds : List D} (h : WT Try.prog k 23 ds) : ∃ x : List GRule, ds = [.sl 3 (x.map fun y => GRule.enc y)] ∧ (x.length ≤ maxLen ∧ ∀ y ∈ x, GRule.ok y) := by
  cases k with
  | zero => exact h.elim
  | succ k =>
  simp only [WT, Try.underlying23] at h
  obtain ⟨rows, rfl, hl, hr⟩ := h
  obtain ⟨xs, rfl, hxs⟩ := rows_map (fun r hr => wt58 hr) rows hr
  refine ⟨xs, ?_, by simpa using hl, hxs⟩
  rw [C58]
theorem wt25 {k : Nat} {ds : List D} (h : WT Try.prog k 25 ds) : ∃ x : GProgram, ds = GProgram.enc x ∧ GProgram.ok x := by
  cases k with
  | zero => exact h.elim
  | succ k =>
  simp only [WT, Try.underlying25] at h
  simp only [List.map_cons, List.map_nil, WTF] at h
  obtain ⟨a0, b0, rfl, h0, hr0⟩ := h
  obtain ⟨a1, b1, rfl, h1, hr1⟩ := hr0
  subst hr1
  obtain ⟨x0, rfl, o0⟩ := wt22 h0
  obtain ⟨x1, rfl, o1⟩ := wt23 h1
  exact ⟨⟨x0, x1⟩, rfl, o0, o1⟩
theorem wt54 {k : Nat} {ds : List D} (h : WT Try.prog k 54 ds) : ∃ x : GNode, ds = GNode.enc x ∧ GNode.ok x := by
  cases k with
  | zero => exact h.elim
  | succ k =>
  simp only [WT, Try.underlying54] at h
  simp only [List.map_cons, List.map_nil, WTF] at h
  obtain ⟨a0, b0, rfl, h0, hr0⟩ := h
  obtain ⟨a1, b1, rfl, h1, hr1⟩ := hr0
  obtain ⟨a2, b2, rfl, h2, hr2⟩ := hr1
  subst hr2
  obtain ⟨x0, rfl, o0⟩ := wt3 h0
  obtain ⟨x1, rfl, o1⟩ := wt9 h1
  obtain ⟨x2, rfl, o2⟩ := wt47 h2
  exact ⟨⟨x0, x1, x2⟩, rfl, o0, o1, o2⟩
theorem wt28 {k : Nat} {ds : List D} (h : WT Try.prog k 28 ds) : ∃ x : List GNode, ds = [.sl 3 (x.map fun y => GNode.enc y)] ∧ (x.length ≤ maxLen ∧ ∀ y ∈ x, GNode.ok y) := by
  cases k with
  | zero => exact h.elim
  | succ k =>
  simp only [WT, Try.underlying28] at h
  obtain ⟨rows, rfl, hl, hr⟩ := h
  obtain ⟨xs, rfl, hxs⟩ := rows_map (fun r hr => wt54 hr) rows hr
  refine ⟨xs, ?_, by simpa using hl, hxs⟩
  rw [C54]
theorem wt52 {k : Nat} {ds : List D} (h : WT Try.prog k 52 ds) : ∃ x : GRule, ds = GRule.enc x ∧ GRule.ok x := by
  cases k with
  | zero => exact h.elim
  | succ k =>
  simp only [WT, Try.underlying52] at h
  simp only [List.map_cons, List.map_nil, WTF] at h
  obtain ⟨a0, b0, rfl, h0, hr0⟩ := h
  obtain ⟨a1, b1, rfl, h1, hr1⟩ := hr0
  obtain ⟨a2, b2, rfl, h2, hr2⟩ := hr1
  subst hr2
  obtain ⟨x0, rfl, o0⟩ := wt3 h0
  obtain ⟨x1, rfl, o1⟩ := wt3 h1
  obtain ⟨x2, rfl, o2⟩ := wt3 h2
  exact ⟨⟨x0, x1, x2⟩, rfl, o0, o1, o2⟩
theorem wt29 {k : Nat} {ds : List D} (h : WT Try.prog k 29 ds) : ∃ x : List GRule, ds = [.sl 3 (x.map fun y => GRule.enc y)] ∧ (x.length ≤ maxLen ∧ ∀ y ∈ x, GRule.ok y) := by
  cases k with
  | zero => exact h.elim
  | succ k =>
  simp only [WT, Try.underlying29] at h
  obtain ⟨rows, rfl, hl, hr⟩ := h
  obtain ⟨xs, rfl, hxs⟩ := rows_map (fun r hr => wt52 hr) rows hr
  refine ⟨xs, ?_, by simpa using hl, hxs⟩
  rw [C52]
theorem wt31 {k : Nat} {ds : List D} (h : WT Try.prog k 31 ds) : ∃ x : GProgram, ds = GProgram.enc x ∧ GProgram.ok x := by
  cases k with
  | zero => exact h.elim
  | succ k =>
  simp only [WT, Try.underlying31] at h
  simp only [List.map_cons, List.map_nil, WTF] at h
  obtain ⟨a0, b0, rfl, h0, hr0⟩ := h
  obtain ⟨a1, b1, rfl, h1, hr1⟩ := hr0
  subst hr1
  obtain ⟨x0, rfl, o0⟩ := wt28 h0
  obtain ⟨x1, rfl, o1⟩ := wt29 h1
  exact ⟨⟨x0, x1⟩, rfl, o0, o1⟩
theorem wt92 {k : Nat} {ds : List D} (h : WT Try.prog k 92 ds) : ∃ x : GPiece, ds = GPiece.enc x ∧ GPiece.ok x := by
  cases k with
  | zero => exact h.elim
  | succ k =>
  simp only [WT, Try.underlying92] at h
  simp only [List.map_cons, List.map_nil, WTF] at h
  obtain ⟨a0, b0, rfl, h0, hr0⟩ := h
  obtain ⟨a1, b1, rfl, h1, hr1⟩ := hr0
  obtain ⟨a2, b2, rfl, h2, hr2⟩ := hr1
  subst hr2
  obtain ⟨x0, rfl, o0⟩ := wt3 h0
  obtain ⟨x1, rfl, o1⟩ := wt9 h1
  obtain ⟨x2, rfl, o2⟩ := wt47 h2
  exact ⟨⟨x0, x1, x2⟩, rfl, o0, o1, o2⟩
theorem wt71 {k : Nat} {ds : List D} (h : WT Try.prog k 71 ds) : ∃ x : List GPiece, ds = [.sl 3 (x.map fun y => GPiece.enc y)] ∧ (x.length ≤ maxLen ∧ ∀ y ∈ x, GPiece.ok y) := by
  cases k with
  | zero => exact h.elim
  | succ k =>
  simp only [WT, Try.underlying71] at h
  obtain ⟨rows, rfl, hl, hr⟩ := h
  obtain ⟨xs, rfl, hxs⟩ := rows_map (fun r hr => wt92 hr) rows hr
  refine ⟨xs, ?_, by simpa using hl, hxs⟩
  rw [C92]
theorem wt73 {k : Nat} {ds : List D} (h : WT Try.prog k 73 ds) : ∃ x : GPattern, ds = GPattern.enc x ∧ GPattern.ok x := by
  cases k with
  | zero => exact h.elim
  | succ k =>
  simp only [WT, Try.underlying73] at h
  simp only [List.map_cons, List.map_nil, WTF] at h
  obtain ⟨a0, b0, rfl, h0, hr0⟩ := h
  subst hr0
  obtain ⟨x0, rfl, o0⟩ := wt71 h0
  exact ⟨⟨x0⟩, rfl, o0⟩
end Go.Vsi
