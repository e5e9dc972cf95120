/- Structs of the program as plain structures; their cells. Printed by our own program (wip/tool/types.py). -/
import Derived.Test.YtgphmleklcicaaaPT
import Derived.Test.YtgphmleklcicaaaV5
namespace Go.Vsi
open Go.Proofs
set_option maxRecDepth 100000
structure GNode where
  Op : Int
  Text : List UInt8
  Kids : List Int
def GNode.enc (x : GNode) : _root_.List D := [.v (.int .i64 x.Op), .v (.string (B x.Text)), .sl 1 (x.Kids.map fun y => [.v (.int .i64 y)])]
def GNode.ok (x : GNode) : Prop := (Lit.int .i64 x.Op).wf = true ∧ x.Text.length ≤ maxLen ∧ (x.Kids.length ≤ maxLen ∧ ∀ y ∈ x.Kids, (Lit.int .i64 y).wf = true)
structure GRule where
  When : Int
  If : Int
  Do : Int
def GRule.enc (x : GRule) : _root_.List D := [.v (.int .i64 x.When), .v (.int .i64 x.If), .v (.int .i64 x.Do)]
def GRule.ok (x : GRule) : Prop := (Lit.int .i64 x.When).wf = true ∧ (Lit.int .i64 x.If).wf = true ∧ (Lit.int .i64 x.Do).wf = true
structure GProgram where
  Nodes : List GNode
  Rules : List GRule
def GProgram.enc (x : GProgram) : _root_.List D := [.sl 3 (x.Nodes.map fun y => GNode.enc y), .sl 3 (x.Rules.map fun y => GRule.enc y)]
def GProgram.ok (x : GProgram) : Prop := (x.Nodes.length ≤ maxLen ∧ ∀ y ∈ x.Nodes, GNode.ok y) ∧ (x.Rules.length ≤ maxLen ∧ ∀ y ∈ x.Rules, GRule.ok y)
structure GPiece where
  Op : Int
  Text : List UInt8
  Kids : List Int
def GPiece.enc (x : GPiece) : _root_.List D := [.v (.int .i64 x.Op), .v (.string (B x.Text)), .sl 1 (x.Kids.map fun y => [.v (.int .i64 y)])]
def GPiece.ok (x : GPiece) : Prop := (Lit.int .i64 x.Op).wf = true ∧ x.Text.length ≤ maxLen ∧ (x.Kids.length ≤ maxLen ∧ ∀ y ∈ x.Kids, (Lit.int .i64 y).wf = true)
structure GPattern where
  Pieces : List GPiece
def GPattern.enc (x : GPattern) : _root_.List D := [.sl 3 (x.Pieces.map fun y => GPiece.enc y)]
def GPattern.ok (x : GPattern) : Prop := (x.Pieces.length ≤ maxLen ∧ ∀ y ∈ x.Pieces, GPiece.ok y)

theorem rows_map {α : Type} {W : List D → Prop} {enc : α → List D} {ok : α → Prop} (h : ∀ r, W r → ∃ x, r = enc x ∧ ok x) : ∀ rows : List (List D), (∀ r ∈ rows, W r) → ∃ xs : List α, rows = xs.map enc ∧ ∀ x ∈ xs, ok x
  | [], _ => ⟨[], rfl, by simp⟩
  | r :: rs, hr => by
    obtain ⟨x, rfl, hx⟩ := h r (hr r (by simp))
    obtain ⟨xs, rfl, hxs⟩ := rows_map h rs fun r h => hr r (by simp [h])
    exact ⟨x :: xs, rfl, by simp; exact ⟨hx, hxs⟩⟩
theorem wt3 {k : Nat} {ds : List D} (h : WT Try.prog k 3 ds) : ∃ x : Int, ds = [.v (.int .i64 x)] ∧ (Lit.int .i64 x).wf = true := by
  cases k with
  | zero => exact h.elim
  | succ k =>
  simp only [WT, Try.underlying3] at h
  exact h
theorem wt9 {k : Nat} {ds : List D} (h : WT Try.prog k 9 ds) : ∃ x : List UInt8, ds = [.v (.string (B x))] ∧ x.length ≤ maxLen := by
  cases k with
  | zero => exact h.elim
  | succ k =>
  simp only [WT, Try.underlying9] at h
  obtain ⟨s, rfl, h⟩ := h
  exact ⟨s.data.toList, rfl, h⟩
theorem wt41 {k : Nat} {ds : List D} (h : WT Try.prog k 41 ds) : ∃ x : List Int, ds = [.sl 1 (x.map fun y => [.v (.int .i64 y)])] ∧ (x.length ≤ maxLen ∧ ∀ y ∈ x, (Lit.int .i64 y).wf = true) := by
  cases k with
  | zero => exact h.elim
  | succ k =>
  simp only [WT, Try.underlying41] at h
  obtain ⟨rows, rfl, hl, hr⟩ := h
  obtain ⟨xs, rfl, hxs⟩ := rows_map (fun r hr => wt3 hr) rows hr
  refine ⟨xs, ?_, by simpa using hl, hxs⟩
  rw [Y3.2.2.1]
theorem wt54 {k : Nat} {ds : List D} (h : WT Try.prog k 54 ds) : ∃ x : GNode, ds = GNode.enc x ∧ GNode.ok x := by
  cases k with
  | zero => exact h.elim
  | succ k =>
  simp only [WT, Try.underlying54] at h
  simp only [List.map_cons, List.map_nil, WTF] at h
  obtain ⟨a0, b0, rfl, h0, hr0⟩ := h
  obtain ⟨a1, b1, rfl, h1, hr1⟩ := hr0
  obtain ⟨a2, b2, rfl, h2, hr2⟩ := hr1
  subst hr2
  obtain ⟨x0, rfl, o0⟩ := wt3 h0
  obtain ⟨x1, rfl, o1⟩ := wt9 h1
  obtain ⟨x2, rfl, o2⟩ := wt41 h2
  exact ⟨⟨x0, x1, x2⟩, rfl, o0, o1, o2⟩
theorem wt22 {k : Nat} {ds : List D} (h : WT Try.prog k 22 ds) : ∃ x : List GNode, ds = [.sl 3 (x.map fun y => GNode.enc y)] ∧ (x.length ≤ maxLen ∧ ∀ y ∈ x, GNode.ok y) := by
  cases k with
  | zero => exact h.elim
  | succ k =>
  simp only [WT, Try.underlying22] at h
  obtain ⟨rows, rfl, hl, hr⟩ := h
  obtain ⟨xs, rfl, hxs⟩ := rows_map (fun r hr => wt54 hr) rows hr
  refine ⟨xs, ?_, by simpa using hl, hxs⟩
  rw [Y54.2.2.1]
theorem wt60 {k : Nat} {ds : List D} (h : WT Try.prog k 60 ds) : ∃ x : GRule, ds = GRule.enc x ∧ GRule.ok x := by
  cases k with
  | zero => exact h.elim
  | succ k =>
  simp only [WT, Try.underlying60] at h
  simp only [List.map_cons, List.map_nil, WTF] at h
  obtain ⟨a0, b0, rfl, h0, hr0⟩ := h
  obtain ⟨a1, b1, rfl, h1, hr1⟩ := hr0
  obtain ⟨a2, b2, rfl, h2, hr2⟩ := hr1
  subst hr2
  obtain ⟨x0, rfl, o0⟩ := wt3 h0
  obtain ⟨x1, rfl, o1⟩ := wt3 h1
  obtain ⟨x2, rfl, o2⟩ := wt3 h2
  exact ⟨⟨x0, x1, x2⟩, rfl, o0, o1, o2⟩
theorem wt23 {k : Nat} {ds : List D} (h : WT Try.prog k 23 ds) : ∃ x : List GRule, ds = [.sl 3 (x.map fun y => GRule.enc y)] ∧ (x.length ≤ maxLen ∧ ∀ y ∈ x, GRule.ok y) := by
  cases k with
  | zero => exact h.elim
  | succ k =>
  simp only [WT, Try.underlying23] at h
  obtain ⟨rows, rfl, hl, hr⟩ := h
  obtain ⟨xs, rfl, hxs⟩ := rows_map (fun r hr => wt60 hr) rows hr
  refine ⟨xs, ?_, by simpa using hl, hxs⟩
  rw [Y60.2.2.1]
theorem wt25 {k : Nat} {ds : List D} (h : WT Try.prog k 25 ds) : ∃ x : GProgram, ds = GProgram.enc x ∧ GProgram.ok x := by
  cases k with
  | zero => exact h.elim
  | succ k =>
  simp only [WT, Try.underlying25] at h
  simp only [List.map_cons, List.map_nil, WTF] at h
  obtain ⟨a0, b0, rfl, h0, hr0⟩ := h
  obtain ⟨a1, b1, rfl, h1, hr1⟩ := hr0
  subst hr1
  obtain ⟨x0, rfl, o0⟩ := wt22 h0
  obtain ⟨x1, rfl, o1⟩ := wt23 h1
  exact ⟨⟨x0, x1⟩, rfl, o0, o1⟩
theorem wt43 {k : Nat} {ds : List D} (h : WT Try.prog k 43 ds) : ∃ x : GNode, ds = GNode.enc x ∧ GNode.ok x := by
  cases k with
  | zero => exact h.elim
  | succ k =>
  simp only [WT, Try.underlying43] at h
  simp only [List.map_cons, List.map_nil, WTF] at h
  obtain ⟨a0, b0, rfl, h0, hr0⟩ := h
  obtain ⟨a1, b1, rfl, h1, hr1⟩ := hr0
  obtain ⟨a2, b2, rfl, h2, hr2⟩ := hr1
  subst hr2
  obtain ⟨x0, rfl, o0⟩ := wt3 h0
  obtain ⟨x1, rfl, o1⟩ := wt9 h1
  obtain ⟨x2, rfl, o2⟩ := wt41 h2
  exact ⟨⟨x0, x1, x2⟩, rfl, o0, o1, o2⟩
theorem wt27 {k : Nat} {ds : List D} (h : WT Try.prog k 27 ds) : ∃ x : List GNode, ds = [.sl 3 (x.map fun y => GNode.enc y)] ∧ (x.length ≤ maxLen ∧ ∀ y ∈ x, GNode.ok y) := by
  cases k with
  | zero => exact h.elim
  | succ k =>
  simp only [WT, Try.underlying27] at h
  obtain ⟨rows, rfl, hl, hr⟩ := h
  obtain ⟨xs, rfl, hxs⟩ := rows_map (fun r hr => wt43 hr) rows hr
  refine ⟨xs, ?_, by simpa using hl, hxs⟩
  rw [Y43.2.2.1]
theorem wt45 {k : Nat} {ds : List D} (h : WT Try.prog k 45 ds) : ∃ x : GRule, ds = GRule.enc x ∧ GRule.ok x := by
  cases k with
  | zero => exact h.elim
  | succ k =>
  simp only [WT, Try.underlying45] at h
  simp only [List.map_cons, List.map_nil, WTF] at h
  obtain ⟨a0, b0, rfl, h0, hr0⟩ := h
  obtain ⟨a1, b1, rfl, h1, hr1⟩ := hr0
  obtain ⟨a2, b2, rfl, h2, hr2⟩ := hr1
  subst hr2
  obtain ⟨x0, rfl, o0⟩ := wt3 h0
  obtain ⟨x1, rfl, o1⟩ := wt3 h1
  obtain ⟨x2, rfl, o2⟩ := wt3 h2
  exact ⟨⟨x0, x1, x2⟩, rfl, o0, o1, o2⟩
theorem wt28 {k : Nat} {ds : List D} (h : WT Try.prog k 28 ds) : ∃ x : List GRule, ds = [.sl 3 (x.map fun y => GRule.enc y)] ∧ (x.length ≤ maxLen ∧ ∀ y ∈ x, GRule.ok y) := by
  cases k with
  | zero => exact h.elim
  | succ k =>
  simp only [WT, Try.underlying28] at h
  obtain ⟨rows, rfl, hl, hr⟩ := h
  obtain ⟨xs, rfl, hxs⟩ := rows_map (fun r hr => wt45 hr) rows hr
  refine ⟨xs, ?_, by simpa using hl, hxs⟩
  rw [Y45.2.2.1]
theorem wt30 {k : Nat} {ds : List D} (h : WT Try.prog k 30 ds) : ∃ x : GProgram, ds = GProgram.enc x ∧ GProgram.ok x := by
  cases k with
  | zero => exact h.elim
  | succ k =>
  simp only [WT, Try.underlying30] at h
  simp only [List.map_cons, List.map_nil, WTF] at h
  obtain ⟨a0, b0, rfl, h0, hr0⟩ := h
  obtain ⟨a1, b1, rfl, h1, hr1⟩ := hr0
  subst hr1
  obtain ⟨x0, rfl, o0⟩ := wt27 h0
  obtain ⟨x1, rfl, o1⟩ := wt28 h1
  exact ⟨⟨x0, x1⟩, rfl, o0, o1⟩
theorem wt96 {k : Nat} {ds : List D} (h : WT Try.prog k 96 ds) : ∃ x : GPiece, ds = GPiece.enc x ∧ GPiece.ok x := by
  cases k with
  | zero => exact h.elim
  | succ k =>
  simp only [WT, Try.underlying96] at h
  simp only [List.map_cons, List.map_nil, WTF] at h
  obtain ⟨a0, b0, rfl, h0, hr0⟩ := h
  obtain ⟨a1, b1, rfl, h1, hr1⟩ := hr0
  obtain ⟨a2, b2, rfl, h2, hr2⟩ := hr1
  subst hr2
  obtain ⟨x0, rfl, o0⟩ := wt3 h0
  obtain ⟨x1, rfl, o1⟩ := wt9 h1
  obtain ⟨x2, rfl, o2⟩ := wt41 h2
  exact ⟨⟨x0, x1, x2⟩, rfl, o0, o1, o2⟩
theorem wt74 {k : Nat} {ds : List D} (h : WT Try.prog k 74 ds) : ∃ x : List GPiece, ds = [.sl 3 (x.map fun y => GPiece.enc y)] ∧ (x.length ≤ maxLen ∧ ∀ y ∈ x, GPiece.ok y) := by
  cases k with
  | zero => exact h.elim
  | succ k =>
  simp only [WT, Try.underlying74] at h
  obtain ⟨rows, rfl, hl, hr⟩ := h
  obtain ⟨xs, rfl, hxs⟩ := rows_map (fun r hr => wt96 hr) rows hr
  refine ⟨xs, ?_, by simpa using hl, hxs⟩
  rw [Y96.2.2.1]
theorem wt76 {k : Nat} {ds : List D} (h : WT Try.prog k 76 ds) : ∃ x : GPattern, ds = GPattern.enc x ∧ GPattern.ok x := by
  cases k with
  | zero => exact h.elim
  | succ k =>
  simp only [WT, Try.underlying76] at h
  simp only [List.map_cons, List.map_nil, WTF] at h
  obtain ⟨a0, b0, rfl, h0, hr0⟩ := h
  subst hr0
  obtain ⟨x0, rfl, o0⟩ := wt74 h0
  exact ⟨⟨x0⟩, rfl, o0⟩
end Go.Vsi
