/- Structs of the program as plain structures; their cells. Printed by our own program (wip/tool/types.py). -/
import Derived.Test.YtbmcobbcbepnfaaPT
import Derived.Test.YtbmcobbcbepnfaaV5
namespace Go.Vsi
open Go.Proofs
set_option maxRecDepth 100000
structure GInstr where
  Op : Int
  Arg : Int
def GInstr.enc (x : GInstr) : _root_.List D := [.v (.int .i64 x.Op), .v (.int .i64 x.Arg)]
def GInstr.ok (x : GInstr) : Prop := (Lit.int .i64 x.Op).wf = true ∧ (Lit.int .i64 x.Arg).wf = true
structure GCode where
  Texts : List (List UInt8)
  List : List GInstr
  Begin : Int
  Line : Int
  End : Int
def GCode.enc (x : GCode) : _root_.List D := [.sl 1 (x.Texts.map fun y => [.v (.string (B y))]), .sl 2 (x.List.map fun y => GInstr.enc y), .v (.int .i64 x.Begin), .v (.int .i64 x.Line), .v (.int .i64 x.End)]
def GCode.ok (x : GCode) : Prop := (x.Texts.length ≤ maxLen ∧ ∀ y ∈ x.Texts, y.length ≤ maxLen) ∧ (x.List.length ≤ maxLen ∧ ∀ y ∈ x.List, GInstr.ok y) ∧ (Lit.int .i64 x.Begin).wf = true ∧ (Lit.int .i64 x.Line).wf = true ∧ (Lit.int .i64 x.End).wf = true
structure GVar where
  Name : List UInt8
  Val : List UInt8
def GVar.enc (x : GVar) : _root_.List D := [.v (.string (B x.Name)), .v (.string (B x.Val))]
def GVar.ok (x : GVar) : Prop := x.Name.length ≤ maxLen ∧ x.Val.length ≤ maxLen
structure GCell where
  Name : List UInt8
  Key : List UInt8
  Val : List UInt8
def GCell.enc (x : GCell) : _root_.List D := [.v (.string (B x.Name)), .v (.string (B x.Key)), .v (.string (B x.Val))]
def GCell.ok (x : GCell) : Prop := x.Name.length ≤ maxLen ∧ x.Key.length ≤ maxLen ∧ x.Val.length ≤ maxLen
structure GStore where
  Vars : List GVar
  Cells : List GCell
  Out : List UInt8
def GStore.enc (x : GStore) : _root_.List D := [.sl 2 (x.Vars.map fun y => GVar.enc y), .sl 3 (x.Cells.map fun y => GCell.enc y), .v (.string (B x.Out))]
def GStore.ok (x : GStore) : Prop := (x.Vars.length ≤ maxLen ∧ ∀ y ∈ x.Vars, GVar.ok y) ∧ (x.Cells.length ≤ maxLen ∧ ∀ y ∈ x.Cells, GCell.ok y) ∧ x.Out.length ≤ maxLen
structure GTask where
  Lines : List (List UInt8)
  Try : Int
  Until : Int
  Done : Bool
  Delta : GStore
def GTask.enc (x : GTask) : _root_.List D := [.sl 1 (x.Lines.map fun y => [.v (.string (B y))]), .v (.int .i64 x.Try), .v (.int .i64 x.Until), .v (.bool x.Done), .sl 2 (x.Delta.Vars.map fun y => GVar.enc y), .sl 3 (x.Delta.Cells.map fun y => GCell.enc y), .v (.string (B x.Delta.Out))]
def GTask.ok (x : GTask) : Prop := (x.Lines.length ≤ maxLen ∧ ∀ y ∈ x.Lines, y.length ≤ maxLen) ∧ (Lit.int .i64 x.Try).wf = true ∧ (Lit.int .i64 x.Until).wf = true ∧ True ∧ GStore.ok x.Delta
structure GCoord where
  Code : GCode
  Names : List (List UInt8)
  Begin : GStore
  Count : Int
  Tasks : List GTask
  Now : Int
  Tries : Int
  Over : Bool
  Final : GStore
def GCoord.enc (x : GCoord) : _root_.List D := [.sl 1 (x.Code.Texts.map fun y => [.v (.string (B y))]), .sl 2 (x.Code.List.map fun y => GInstr.enc y), .v (.int .i64 x.Code.Begin), .v (.int .i64 x.Code.Line), .v (.int .i64 x.Code.End), .sl 1 (x.Names.map fun y => [.v (.string (B y))]), .sl 2 (x.Begin.Vars.map fun y => GVar.enc y), .sl 3 (x.Begin.Cells.map fun y => GCell.enc y), .v (.string (B x.Begin.Out)), .v (.int .i64 x.Count), .sl 7 (x.Tasks.map fun y => GTask.enc y), .v (.int .i64 x.Now), .v (.int .i64 x.Tries), .v (.bool x.Over), .sl 2 (x.Final.Vars.map fun y => GVar.enc y), .sl 3 (x.Final.Cells.map fun y => GCell.enc y), .v (.string (B x.Final.Out))]
def GCoord.ok (x : GCoord) : Prop := GCode.ok x.Code ∧ (x.Names.length ≤ maxLen ∧ ∀ y ∈ x.Names, y.length ≤ maxLen) ∧ GStore.ok x.Begin ∧ (Lit.int .i64 x.Count).wf = true ∧ (x.Tasks.length ≤ maxLen ∧ ∀ y ∈ x.Tasks, GTask.ok y) ∧ (Lit.int .i64 x.Now).wf = true ∧ (Lit.int .i64 x.Tries).wf = true ∧ True ∧ GStore.ok x.Final

theorem rows_map {α : Type} {W : List D → Prop} {enc : α → List D} {ok : α → Prop} (h : ∀ r, W r → ∃ x, r = enc x ∧ ok x) : ∀ rows : List (List D), (∀ r ∈ rows, W r) → ∃ xs : List α, rows = xs.map enc ∧ ∀ x ∈ xs, ok x
  | [], _ => ⟨[], rfl, by simp⟩
  | r :: rs, hr => by
    obtain ⟨x, rfl, hx⟩ := h r (hr r (by simp))
    obtain ⟨xs, rfl, hxs⟩ := rows_map h rs fun r h => hr r (by simp [h])
    exact ⟨x :: xs, rfl, by simp; exact ⟨hx, hxs⟩⟩
theorem wt9 {k : Nat} {ds : List D} (h : WT Try.prog k 9 ds) : ∃ x : List UInt8, ds = [.v (.string (B x))] ∧ x.length ≤ maxLen := by
  cases k with
  | zero => exact h.elim
  | succ k =>
  simp only [WT, Try.underlying9] at h
  obtain ⟨s, rfl, h⟩ := h
  exact ⟨s.data.toList, rfl, h⟩
theorem wt22 {k : Nat} {ds : List D} (h : WT Try.prog k 22 ds) : ∃ x : List (List UInt8), ds = [.sl 1 (x.map fun y => [.v (.string (B y))])] ∧ (x.length ≤ maxLen ∧ ∀ y ∈ x, y.length ≤ maxLen) := by
  cases k with
  | zero => exact h.elim
  | succ k =>
  simp only [WT, Try.underlying22] at h
  obtain ⟨rows, rfl, hl, hr⟩ := h
  obtain ⟨xs, rfl, hxs⟩ := rows_map (fun r hr => wt9 hr) rows hr
  refine ⟨xs, ?_, by simpa using hl, hxs⟩
  rw [C9]
theorem wt3 {k : Nat} {ds : List D} (h : WT Try.prog k 3 ds) : ∃ x : Int, ds = [.v (.int .i64 x)] ∧ (Lit.int .i64 x).wf = true := by
  cases k with
  | zero => exact h.elim
  | succ k =>
  simp only [WT, Try.underlying3] at h
  exact h
theorem wt96 {k : Nat} {ds : List D} (h : WT Try.prog k 96 ds) : ∃ x : GInstr, ds = GInstr.enc x ∧ GInstr.ok x := by
  cases k with
  | zero => exact h.elim
  | succ k =>
  simp only [WT, Try.underlying96] at h
  simp only [List.map_cons, List.map_nil, WTF] at h
  obtain ⟨a0, b0, rfl, h0, hr0⟩ := h
  obtain ⟨a1, b1, rfl, h1, hr1⟩ := hr0
  subst hr1
  obtain ⟨x0, rfl, o0⟩ := wt3 h0
  obtain ⟨x1, rfl, o1⟩ := wt3 h1
  exact ⟨⟨x0, x1⟩, rfl, o0, o1⟩
theorem wt23 {k : Nat} {ds : List D} (h : WT Try.prog k 23 ds) : ∃ x : List GInstr, ds = [.sl 2 (x.map fun y => GInstr.enc y)] ∧ (x.length ≤ maxLen ∧ ∀ y ∈ x, GInstr.ok y) := by
  cases k with
  | zero => exact h.elim
  | succ k =>
  simp only [WT, Try.underlying23] at h
  obtain ⟨rows, rfl, hl, hr⟩ := h
  obtain ⟨xs, rfl, hxs⟩ := rows_map (fun r hr => wt96 hr) rows hr
  refine ⟨xs, ?_, by simpa using hl, hxs⟩
  rw [C96]
theorem wt25 {k : Nat} {ds : List D} (h : WT Try.prog k 25 ds) : ∃ x : GCode, ds = GCode.enc x ∧ GCode.ok x := by
  cases k with
  | zero => exact h.elim
  | succ k =>
  simp only [WT, Try.underlying25] at h
  simp only [List.map_cons, List.map_nil, WTF] at h
  obtain ⟨a0, b0, rfl, h0, hr0⟩ := h
  obtain ⟨a1, b1, rfl, h1, hr1⟩ := hr0
  obtain ⟨a2, b2, rfl, h2, hr2⟩ := hr1
  obtain ⟨a3, b3, rfl, h3, hr3⟩ := hr2
  obtain ⟨a4, b4, rfl, h4, hr4⟩ := hr3
  subst hr4
  obtain ⟨x0, rfl, o0⟩ := wt22 h0
  obtain ⟨x1, rfl, o1⟩ := wt23 h1
  obtain ⟨x2, rfl, o2⟩ := wt3 h2
  obtain ⟨x3, rfl, o3⟩ := wt3 h3
  obtain ⟨x4, rfl, o4⟩ := wt3 h4
  exact ⟨⟨x0, x1, x2, x3, x4⟩, rfl, o0, o1, o2, o3, o4⟩
theorem wt89 {k : Nat} {ds : List D} (h : WT Try.prog k 89 ds) : ∃ x : GVar, ds = GVar.enc x ∧ GVar.ok x := by
  cases k with
  | zero => exact h.elim
  | succ k =>
  simp only [WT, Try.underlying89] at h
  simp only [List.map_cons, List.map_nil, WTF] at h
  obtain ⟨a0, b0, rfl, h0, hr0⟩ := h
  obtain ⟨a1, b1, rfl, h1, hr1⟩ := hr0
  subst hr1
  obtain ⟨x0, rfl, o0⟩ := wt9 h0
  obtain ⟨x1, rfl, o1⟩ := wt9 h1
  exact ⟨⟨x0, x1⟩, rfl, o0, o1⟩
theorem wt26 {k : Nat} {ds : List D} (h : WT Try.prog k 26 ds) : ∃ x : List GVar, ds = [.sl 2 (x.map fun y => GVar.enc y)] ∧ (x.length ≤ maxLen ∧ ∀ y ∈ x, GVar.ok y) := by
  cases k with
  | zero => exact h.elim
  | succ k =>
  simp only [WT, Try.underlying26] at h
  obtain ⟨rows, rfl, hl, hr⟩ := h
  obtain ⟨xs, rfl, hxs⟩ := rows_map (fun r hr => wt89 hr) rows hr
  refine ⟨xs, ?_, by simpa using hl, hxs⟩
  rw [C89]
theorem wt92 {k : Nat} {ds : List D} (h : WT Try.prog k 92 ds) : ∃ x : GCell, ds = GCell.enc x ∧ GCell.ok x := by
  cases k with
  | zero => exact h.elim
  | succ k =>
  simp only [WT, Try.underlying92] at h
  simp only [List.map_cons, List.map_nil, WTF] at h
  obtain ⟨a0, b0, rfl, h0, hr0⟩ := h
  obtain ⟨a1, b1, rfl, h1, hr1⟩ := hr0
  obtain ⟨a2, b2, rfl, h2, hr2⟩ := hr1
  subst hr2
  obtain ⟨x0, rfl, o0⟩ := wt9 h0
  obtain ⟨x1, rfl, o1⟩ := wt9 h1
  obtain ⟨x2, rfl, o2⟩ := wt9 h2
  exact ⟨⟨x0, x1, x2⟩, rfl, o0, o1, o2⟩
theorem wt27 {k : Nat} {ds : List D} (h : WT Try.prog k 27 ds) : ∃ x : List GCell, ds = [.sl 3 (x.map fun y => GCell.enc y)] ∧ (x.length ≤ maxLen ∧ ∀ y ∈ x, GCell.ok y) := by
  cases k with
  | zero => exact h.elim
  | succ k =>
  simp only [WT, Try.underlying27] at h
  obtain ⟨rows, rfl, hl, hr⟩ := h
  obtain ⟨xs, rfl, hxs⟩ := rows_map (fun r hr => wt92 hr) rows hr
  refine ⟨xs, ?_, by simpa using hl, hxs⟩
  rw [C92]
theorem wt29 {k : Nat} {ds : List D} (h : WT Try.prog k 29 ds) : ∃ x : GStore, ds = GStore.enc x ∧ GStore.ok x := by
  cases k with
  | zero => exact h.elim
  | succ k =>
  simp only [WT, Try.underlying29] at h
  simp only [List.map_cons, List.map_nil, WTF] at h
  obtain ⟨a0, b0, rfl, h0, hr0⟩ := h
  obtain ⟨a1, b1, rfl, h1, hr1⟩ := hr0
  obtain ⟨a2, b2, rfl, h2, hr2⟩ := hr1
  subst hr2
  obtain ⟨x0, rfl, o0⟩ := wt26 h0
  obtain ⟨x1, rfl, o1⟩ := wt27 h1
  obtain ⟨x2, rfl, o2⟩ := wt9 h2
  exact ⟨⟨x0, x1, x2⟩, rfl, o0, o1, o2⟩
theorem wt4 {k : Nat} {ds : List D} (h : WT Try.prog k 4 ds) : ∃ x : Bool, ds = [.v (.bool x)] ∧ True := by
  cases k with
  | zero => exact h.elim
  | succ k =>
  simp only [WT, Try.underlying4] at h
  obtain ⟨b, h⟩ := h
  exact ⟨b, h, trivial⟩
theorem wt70 {k : Nat} {ds : List D} (h : WT Try.prog k 70 ds) : ∃ x : GTask, ds = GTask.enc x ∧ GTask.ok x := by
  cases k with
  | zero => exact h.elim
  | succ k =>
  simp only [WT, Try.underlying70] at h
  simp only [List.map_cons, List.map_nil, WTF] at h
  obtain ⟨a0, b0, rfl, h0, hr0⟩ := h
  obtain ⟨a1, b1, rfl, h1, hr1⟩ := hr0
  obtain ⟨a2, b2, rfl, h2, hr2⟩ := hr1
  obtain ⟨a3, b3, rfl, h3, hr3⟩ := hr2
  obtain ⟨a4, b4, rfl, h4, hr4⟩ := hr3
  subst hr4
  obtain ⟨x0, rfl, o0⟩ := wt22 h0
  obtain ⟨x1, rfl, o1⟩ := wt3 h1
  obtain ⟨x2, rfl, o2⟩ := wt3 h2
  obtain ⟨x3, rfl, o3⟩ := wt4 h3
  obtain ⟨x4, rfl, o4⟩ := wt29 h4
  exact ⟨⟨x0, x1, x2, x3, x4⟩, rfl, o0, o1, o2, o3, o4⟩
theorem wt30 {k : Nat} {ds : List D} (h : WT Try.prog k 30 ds) : ∃ x : List GTask, ds = [.sl 7 (x.map fun y => GTask.enc y)] ∧ (x.length ≤ maxLen ∧ ∀ y ∈ x, GTask.ok y) := by
  cases k with
  | zero => exact h.elim
  | succ k =>
  simp only [WT, Try.underlying30] at h
  obtain ⟨rows, rfl, hl, hr⟩ := h
  obtain ⟨xs, rfl, hxs⟩ := rows_map (fun r hr => wt70 hr) rows hr
  refine ⟨xs, ?_, by simpa using hl, hxs⟩
  rw [C70]
theorem wt32 {k : Nat} {ds : List D} (h : WT Try.prog k 32 ds) : ∃ x : GCoord, ds = GCoord.enc x ∧ GCoord.ok x := by
  cases k with
  | zero => exact h.elim
  | succ k =>
  simp only [WT, Try.underlying32] at h
  simp only [List.map_cons, List.map_nil, WTF] at h
  obtain ⟨a0, b0, rfl, h0, hr0⟩ := h
  obtain ⟨a1, b1, rfl, h1, hr1⟩ := hr0
  obtain ⟨a2, b2, rfl, h2, hr2⟩ := hr1
  obtain ⟨a3, b3, rfl, h3, hr3⟩ := hr2
  obtain ⟨a4, b4, rfl, h4, hr4⟩ := hr3
  obtain ⟨a5, b5, rfl, h5, hr5⟩ := hr4
  obtain ⟨a6, b6, rfl, h6, hr6⟩ := hr5
  obtain ⟨a7, b7, rfl, h7, hr7⟩ := hr6
  obtain ⟨a8, b8, rfl, h8, hr8⟩ := hr7
  subst hr8
  obtain ⟨x0, rfl, o0⟩ := wt25 h0
  obtain ⟨x1, rfl, o1⟩ := wt22 h1
  obtain ⟨x2, rfl, o2⟩ := wt29 h2
  obtain ⟨x3, rfl, o3⟩ := wt3 h3
  obtain ⟨x4, rfl, o4⟩ := wt30 h4
  obtain ⟨x5, rfl, o5⟩ := wt3 h5
  obtain ⟨x6, rfl, o6⟩ := wt3 h6
  obtain ⟨x7, rfl, o7⟩ := wt4 h7
  obtain ⟨x8, rfl, o8⟩ := wt29 h8
  exact ⟨⟨x0, x1, x2, x3, x4, x5, x6, x7, x8⟩, rfl, o0, o1, o2, o3, o4, o5, o6, o7, o8⟩
end Go.Vsi
