/- What the library's ContainsAny and IndexByte do. -/
import Derived.Test.YtgphmleklcicaaaProg
import Derived.WalkKit
import Derived.WalkMore
import Derived.Lib.Walk
import Derived.Lib.Strings
import Derived.Lib.IndexBytes
import Derived.Lib.AsciiSet
import Derived.Lib.IndexAny
import Derived.Lib.Builder
import Derived.Laws.Strings3
import Derived.Laws.ResultCell
import Derived.Deep.LoopGhost
import Derived.Deep.WholeRow
import Derived.Laws.RangeString
import Derived.Laws.RangeAny
import Derived.Lib.Bytealg
import Derived.Laws.Runes
import Derived.Below
import Derived.Deep.RegionWith
import Derived.RegionTactic
import Derived.BigRegion
namespace Go.Proofs.Ytgphmleklcicaaa.LibC
open Go.RowKit Go.Lib
set_option linter.unusedVariables false
set_option linter.unusedSimpArgs false
set_option maxRecDepth 1000000
set_option maxHeartbeats 4000000

theorem c90 (s : ByteArray) (c : Int) (w : World) :
    Calls Try.prog 90 #[.string s, .int .u8 c] w fun e w' => e = .returned (.int .i64 (Lib.indexByte s.data.toList c.toNat.toUInt8)) ∧ w' = w := by
  go_enter Try.func90, Try.ntmps90
  go_wp2
  rw [run_callFunc_extern Try.func95 (by kernel_rfl) (by kernel_rfl) (by kernel_rfl) (e := Extern.BytealgIndexByte.indexByte) (by kernel_rfl), Lib.run_indexByteString]
  simp only [Result.andThen]
  rw [Oper.upon_value]
  go_wp2
  go_ret
  exact ⟨rfl, rfl⟩
theorem c84 (s : ByteArray) (c : Int) (w : World) :
    Calls Try.prog 84 #[.string s, .int .u8 c] w fun e w' => e = .returned (.int .i64 (Lib.indexByte s.data.toList c.toNat.toUInt8)) ∧ w' = w := by
  go_enter Try.func84, Try.ntmps84
  go_wp2_with (go_at_call 90; refine (c90 _ _ _).mono ?_; rintro e w' ⟨rfl, hw⟩; rw [hw])
  go_ret
  exact ⟨rfl, rfl⟩
theorem c75 (n : Int) (w : World) :
    Calls Try.prog 75 #[.int .i64 n] w fun e w' => e = .returned (.bool (decide (8 < n))) ∧ w' = w := by
  go_enter Try.func75, Try.ntmps75
  go_wp2
  go_ret
  exact ⟨rfl, rfl⟩
theorem c74 (s : ByteArray) (r : Int) (w : World) (h0 : 0 ≤ r) (h1 : r < 128) :
    Calls Try.prog 74 #[.string s, .int .i32 r] w fun e w' => e = .returned (.int .i64 (Lib.indexByte s.data.toList r.toNat.toUInt8)) ∧ w' = w := by
  go_enter Try.func74, Try.ntmps74
  go_wp2_with (go_at_call 84; refine (c84 _ _ _).mono ?_; rintro e w' ⟨rfl, hw⟩; rw [hw])
  go_ret
  exact ⟨rfl, rfl⟩
theorem c85 (r : Int) (w : World) :
    Calls Try.prog 85 #[.int .i32 r] w fun e w' => e = .returned (.bool (Utf8.valid r)) ∧ w' = w := by
  unfold Utf8.valid
  by_cases h1 : 0 ≤ r
  · by_cases h2 : r < 55296
    · have hf : ((0 ≤ r && r < 0xD800) || (0xE000 ≤ r && r ≤ 0x10FFFF)) = true := by simp [h1, h2]
      rw [hf]
      go_enter Try.func85, Try.ntmps85
      go_wp2
      go_ret
      exact ⟨rfl, rfl⟩
    · by_cases h3 : 57343 < r
      · by_cases h4 : r ≤ 1114111
        · have hf : ((0 ≤ r && r < 0xD800) || (0xE000 ≤ r && r ≤ 0x10FFFF)) = true := by simp; omega
          rw [hf]
          go_enter Try.func85, Try.ntmps85
          go_wp2
          go_ret
          exact ⟨rfl, rfl⟩
        · have hf : ((0 ≤ r && r < 0xD800) || (0xE000 ≤ r && r ≤ 0x10FFFF)) = false := by simp; omega
          rw [hf]
          go_enter Try.func85, Try.ntmps85
          go_wp2
          go_ret
          exact ⟨rfl, rfl⟩
      · have hf : ((0 ≤ r && r < 0xD800) || (0xE000 ≤ r && r ≤ 0x10FFFF)) = false := by simp; omega
        rw [hf]
        go_enter Try.func85, Try.ntmps85
        go_wp2
        go_ret
        exact ⟨rfl, rfl⟩
  · have hf : ((0 ≤ r && r < 0xD800) || (0xE000 ≤ r && r ≤ 0x10FFFF)) = false := by simp; omega
    have h3 : ¬ 57343 < r := by omega
    rw [hf]
    go_enter Try.func85, Try.ntmps85
    go_wp2
    go_ret
    exact ⟨rfl, rfl⟩
theorem c74e (s : ByteArray) (w : World) (hascii : ∀ (j : Nat) b, s.data.toList[j]? = some b → b.toNat < 128) :
    Calls Try.prog 74 #[.string s, .int .i32 65533] w fun e w' => e = .returned (.int .i64 (-1)) ∧ ∃ pos, w' = w.iter s pos := by
  have HA : Aside (∀ (j : Nat) b, s.data.toList[j]? = some b → b.toNat < 128) := hascii
  clear hascii
  go_enter Try.func74, Try.ntmps74
  go_wp2
  go_loopg [5, 6] s.size (fun g _ _ wx => ∃ i : Nat, i + g = s.size ∧ wx = w.iter s i)
  case atStart => exact ⟨0, by omega, rfl⟩
  case round =>
    obtain ⟨i, hig, rfl⟩ := hrel
    cases gk with
    | zero =>
      obtain rfl : i = s.size := by omega
      have hnx := run_next_end (P := Try.prog) w s s.size
      go_wp2
      go_ret
      exact ⟨rfl, _, rfl⟩
    | succ g =>
      have hi : i < s.size := by omega
      obtain ⟨x, hx⟩ : ∃ x : UInt8, s[i]'hi = x := ⟨_, rfl⟩
      have hxl : s.data.toList[i]? = some x := by rw [← hx]; exact Lib.data_getElem? s i hi
      have hx128 : x.toNat < 128 := HA.out i x hxl
      have hnx := fun ty => run_next_ascii (P := Try.prog) w s i ty hi (by rw [hx]; exact hx128)
      rw [hx] at hnx
      clear hxl hx
      have hne : ((x.toNat : Int) == 65533) = false := beq_eq_false_iff_ne.2 (by omega)
      go_wp2
      go_roundg g
      case measure => omega
      case rel => exact ⟨i + 1, by omega, rfl⟩
theorem c74v (s : ByteArray) (r : Int) (w : World) (h128 : 128 ≤ r) (hne : (r == 65533) = false) (hv : Utf8.valid r = false) :
    Calls Try.prog 74 #[.string s, .int .i32 r] w fun e w' => e = .returned (.int .i64 (-1)) ∧ w' = w := by
  have h0 : 0 ≤ r := by omega
  have h1 : ¬ r < 128 := by omega
  go_enter Try.func74, Try.ntmps74
  go_wp2_with (go_at_call 85; refine (c85 _ _).mono ?_; rintro e w' ⟨rfl, hw⟩; rw [hw, hv])
  go_ret
  exact ⟨rfl, rfl⟩
theorem hz100 : (Try.prog.info? 100).map (fun i => (i.zero, i.size)) = some (some (.agg (Array.replicate 256 (.bool false))), 256) := by kernel_rfl
section
theorem c76 (chars : ByteArray) (w : World) (hs : chars.size < 4294967281)
    (hascii : ∀ (j : Nat) b, chars.data.toList[j]? = some b → b.toNat < 128) :
    Calls Try.prog 76 #[.string chars] w fun e w' => e = .returned (.tuple #[.agg (Lib.setCells chars.data.toList), .bool true]) ∧ w' = w.alloc (.cells (Lib.setCells chars.data.toList) 100) := by
  have hv116 := (zero_of_info hz100).1
  have hi116 := (zero_of_info hz100).2
  have HA : Aside (∀ (j : Nat) b, chars.data.toList[j]? = some b → b.toNat < 128) := hascii
  clear hascii
  go_enter Try.func76, Try.ntmps76
  go_wp2
  rw [← Lib.setCells_nil]
  go_loopg [4] chars.size (fun g s4 wx => ∃ i : Nat, i + g = chars.size ∧ s4 = .int .i64 i ∧ wx = w.alloc (.cells (Lib.setCells (chars.data.toList.take i)) 100))
  case atStart => exact ⟨0, by omega, rfl, rfl⟩
  case round =>
    obtain ⟨i, hig, rfl, rfl⟩ := hrel
    cases gk with
    | zero =>
      obtain rfl : i = chars.size := by omega
      have hiz : ¬ ((chars.size : Int) < (chars.size : Int)) := by omega
      rw [show chars.data.toList.take chars.size = chars.data.toList from List.take_of_length_le (by rw [← Lib.size_eq]; exact Nat.le_refl _)]
      have hld := run_loadVar_new (P := Try.prog) w 100 (Lib.setCells chars.data.toList) 256 4 Try.underlying100 (by rw [Lib.setCells_size]; exact hi116)
      have hsz := Lib.setCells_size chars.data.toList
      have hlc := run_loadCellsFrom_new (P := Try.prog) w 100 (Lib.setCells chars.data.toList) 256 hsz
      have hsc := run_storeCells_new (P := Try.prog) w 100 (Lib.setCells chars.data.toList) (Lib.setCells chars.data.toList) (by rw [hsz]; exact hi116) rfl (Lib.setCells_one _)
      have hl2 := run_loadAt_new (P := Try.prog) w 100 (Lib.setCells chars.data.toList) 256 4 Try.underlying100 (by rw [Lib.setCells_size]; exact hi116)
      have hs2 := run_storeAt_new (P := Try.prog) w 100 (Lib.setCells chars.data.toList) (Lib.setCells chars.data.toList) (by rw [hsz]; exact hi116) rfl (Lib.setCells_one _)
      go_wp2
      rw [Oper.wp, show execOp _ _ = (do let r ← Instr.loadAt 100 (.pointer (some ⟨w.heap.size, 0, none⟩)); pure (Next.value r)) from rfl, Sem.run_bind, hl2]
      simp only [Result.andThen, Sem.run_pure]
      rw [Oper.upon_value]
      go_wp2
      (try simp only [Exit.inBlock, Exit.then])
      refine bodyPost_ret (v := .tuple #[.agg (Lib.setCells chars.data.toList), .bool true]) ?_ rfl ⟨rfl, rfl⟩
      rw [results_cell_tmp rfl]
      simp [asAddr, Result.andThen, hld]
    | succ g =>
      have hi : i < chars.size := by omega
      have hiz : (i : Int) < (chars.size : Int) := by omega
      obtain ⟨x, hx⟩ : ∃ x : UInt8, chars[i]'hi = x := ⟨_, rfl⟩
      have hxl : chars.data.toList[i]? = some x := by rw [← hx]; exact Lib.data_getElem? chars i hi
      have hx128 : ¬ ((128 : Int) ≤ (x.toNat : Int)) := by have := HA.out i x hxl; omega
      have hx256 : (x.toNat : Int) < 256 := by have := HA.out i x hxl; omega
      have hcell := Lib.setCells_at (chars.data.toList.take i) x
      have Hx : Aside (chars.data.toList[i]? = some x) := hxl
      clear hxl
      go_wp2
      go_roundg g
      case measure => omega
      case rel => exact ⟨i + 1, by omega, by first | rfl | simp, by rw [List.take_add_one, Hx.out]; simp only [Option.toList]; rw [Lib.setCells_snoc]⟩
theorem c77 (b : Nat) (x : UInt8) (v : Bool) (w : World) (hc : w.cell? ⟨b, x.toNat, none⟩ = some (.bool v)) :
    Calls Try.prog 77 #[.pointer (some ⟨b, 0, none⟩), .int .u8 x.toNat] w fun e w' => e = .returned (.bool v) ∧ w' = w := by
  have hx256 : (x.toNat : Int) < 256 := by have := UInt8.toNat_lt x; omega
  go_enter Try.func77, Try.ntmps77
  go_wp2
  go_ret
  exact ⟨rfl, rfl⟩
end
theorem decode_cont (s : ByteArray) (pos : Nat) : ∀ j, pos < j → j < pos + (Utf8.decode s pos).2 → 128 ≤ (s.get! j).toNat := by
  have h1 : ∀ k, (decide (pos + k < s.size) && ((s.get! (pos + k)).toNat / 64 == 2)) = true → 128 ≤ (s.get! (pos + k)).toNat := fun k h => by
    simp only [Bool.and_eq_true, beq_iff_eq] at h
    omega
  intro j hj hj2
  have hjk : j = pos + 1 ∨ j = pos + 2 ∨ j = pos + 3 ∨ pos + 4 ≤ j := by omega
  revert hj2
  simp only [Utf8.decode]
  repeat' split
  all_goals intro hj2
  all_goals simp only [Bool.and_eq_true, beq_iff_eq] at *
  all_goals rcases hjk with rfl | rfl | rfl | hjk
  all_goals first | omega | (exact absurd hj2 (by simp; omega)) | skip
theorem run_next_at (w : World) (k : Nat) (s : ByteArray) (pos : Nat) (ty : TypeId) (hw : w.heap[k]? = some (.stringIter s pos)) (h : pos < s.size) :
    (Instr.next (.pointer (some ⟨k, 0, none⟩)) true ty).run Try.prog w =
      .ok (.tuple #[.bool true, .int .i64 pos, .int .i32 (Utf8.decode s pos).1]) { w with heap := w.heap.setIfInBounds k (.stringIter s (pos + (Utf8.decode s pos).2)) } := by
  simp only [Instr.next, getObj, setObj, Sem.run_bind, Sem.run, hw, Result.andThen, h, if_true]
  simp [goInt]
theorem run_next_over (w : World) (k : Nat) (s : ByteArray) (pos : Nat) (ty : TypeId) (hw : w.heap[k]? = some (.stringIter s pos)) (h : ¬ pos < s.size) :
    (Instr.next (.pointer (some ⟨k, 0, none⟩)) true ty).run Try.prog w = .ok (.tuple #[.bool false]) w := by
  simp [Instr.next, getObj, Sem.run, hw, h]
theorem c74d (s : ByteArray) (r : Int) (w : World) (h128 : 128 ≤ r) (hr : r ≤ 2147483647) (hne : (r == 65533) = false) (hv : Utf8.valid r = true) (h2 : s.size = 2) (hascii : ∀ (j : Nat) b, s.data.toList[j]? = some b → b.toNat < 128) :
    Calls Try.prog 74 #[.string s, .int .i32 r] w fun e w' => e = .returned (.int .i64 (-1)) ∧ Below w.heap.size w w' := by
  have h0 : 0 ≤ r := by omega
  have h1 : ¬ r < 128 := by omega
  obtain ⟨f1, f2, f3⟩ := encode_facts r hv h128
  obtain ⟨rs, hrs⟩ : ∃ rs, Utf8.encode r = rs := ⟨_, rfl⟩
  rw [hrs] at f1 f2 f3
  obtain ⟨x, hx⟩ : ∃ x : UInt8, s[1]'(by omega) = x := ⟨_, rfl⟩
  have hxl : s.data.toList[1]? = some x := by rw [← hx]; exact Lib.data_getElem? s 1 (by omega)
  have hx128 : x.toNat < 128 := hascii 1 x hxl
  have hsi : (s.size : Int) = 2 := by omega
  have h1s : (1 : Int) < (s.size : Int) := by omega
  by_cases h3 : rs.size = 2
  · obtain ⟨y, hy⟩ : ∃ y : UInt8, rs[1]'(by omega) = y := ⟨_, rfl⟩
    have hy128 : 128 ≤ y.toNat := by
      have := f3 (by omega)
      simp only [h3] at this
      rw [← hy]
      exact this
    have hrsi : (rs.size : Int) = 2 := by omega
    have h1r : (1 : Int) < (rs.size : Int) := by omega
    have hxy : ((x.toNat : Int) == (y.toNat : Int)) = false := beq_eq_false_iff_ne.2 (by omega)
    have hie : Lib.indexByte [] = fun _ => -1 := rfl
    clear f3 hascii hxl
    go_enter Try.func74, Try.ntmps74
    go_wp2_with (go_at_call 85; refine (c85 _ _).mono ?_; rintro e w' ⟨rfl, hw⟩; rw [hw, hv])
    go_step3
    go_wp2
    go_loopg [9] 1 (fun g s9 wx => s9 = .int .i64 1 ∧ wx = w)
    case atStart => exact ⟨rfl, rfl⟩
    case round =>
      obtain ⟨rfl, rfl⟩ := hrel
      go_wp2
      go_step3
      go_wp2
      go_region
      go_wp2
      go_region_with (go_at_call 84; refine (c84 _ _ _).mono ?_; rintro e w' ⟨rfl, hw⟩; rw [hw])
      all_goals
        go_wp2
        rw [Exit.noGoto_ret]
        go_wp2
        rw [Exit.noGoto_ret]
        go_ret
        exact ⟨rfl, (Below.refl _ _).drew.drew⟩
  · have hrs3 : ¬ (rs.size : Int) - 1 < 2 := by omega
    clear f3 hascii hxl
    go_enter Try.func74, Try.ntmps74
    go_wp2_with (go_at_call 85; refine (c85 _ _).mono ?_; rintro e w' ⟨rfl, hw⟩; rw [hw, hv])
    go_step3
    go_wp2
    go_loopg [9] 1 (fun g s9 wx => s9 = .int .i64 ((rs.size : Int) - 1) ∧ wx = w)
    case atStart => exact ⟨rfl, rfl⟩
    case round =>
      obtain ⟨rfl, rfl⟩ := hrel
      go_wp2
      rw [Exit.noGoto_ret]
      go_ret
      exact ⟨rfl, Below.refl _ _⟩
theorem c74h (s : ByteArray) (r : Int) (w : World) (h128 : 128 ≤ r) (hr : r ≤ 2147483647) (h2 : s.size = 2) (hascii : ∀ (j : Nat) b, s.data.toList[j]? = some b → b.toNat < 128) :
    Calls Try.prog 74 #[.string s, .int .i32 r] w fun e w' => e = .returned (.int .i64 (-1)) ∧ Below w.heap.size w w' := by
  by_cases he : r = 65533
  · subst he
    refine (c74e s w hascii).mono ?_
    rintro e w' ⟨h1, pos, rfl⟩
    exact ⟨h1, (Below.refl _ _).alloc (Nat.le_refl _) _⟩
  · have hne : (r == 65533) = false := beq_eq_false_iff_ne.2 he
    cases hv : Utf8.valid r with
    | false =>
      refine (c74v s r w h128 hne hv).mono ?_
      rintro e w' ⟨h1, rfl⟩
      exact ⟨h1, Below.refl _ _⟩
    | true => exact c74d s r w h128 hr hne hv h2 hascii
theorem below_setAt {B k : Nat} {w w' : World} (h : Below B w w') (hk : B ≤ k) (o : Obj) : Below B w { w' with heap := w'.heap.setIfInBounds k o } :=
  ⟨h.os, h.tape, h.output, by simpa using h.size, fun i hi => by
    rw [← h.block i hi]
    simp only [Array.getElem?_setIfInBounds]
    rw [if_neg (by omega)]⟩
theorem any_of (s chars : List UInt8) (h : Lib.NoAny s chars s.length) : (s.any fun b => chars.contains b) = false := by
  rw [List.any_eq_false]
  intro x hx
  obtain ⟨j, hj, hjx⟩ := List.mem_iff_getElem.1 hx
  have := h j x hj (by rw [List.getElem?_eq_getElem hj, hjx])
  simpa using this
theorem any_hit (s chars : List UInt8) (i : Nat) (x : UInt8) (hx : s[i]? = some x) (hc : chars.contains x = true) : (s.any fun b => chars.contains b) = true := by
  rw [List.any_eq_true]
  exact ⟨x, List.mem_of_getElem? hx, hc⟩
theorem noAny_high (s : ByteArray) (chars : List UInt8) (hac : ∀ b ∈ chars, b.toNat < 128) (i : Nat) (h : Lib.NoAny s.data.toList chars i) (hi : i < s.size) (hx : 128 ≤ (s[i]'hi).toNat) : Lib.NoAny s.data.toList chars (i + (Utf8.decode s i).2) := fun j b hj hb => by
  by_cases hji : j < i
  · exact h j b hji hb
  · have hb128 : 128 ≤ b.toNat := by
      have hjs : j < s.size := by
        have := (List.getElem?_eq_some_iff.1 hb).1
        rwa [← Lib.size_eq] at this
      have hbj : s[j]'hjs = b := by
        have := Lib.data_getElem? s j hjs
        rw [this] at hb
        exact Option.some.inj hb
      by_cases hij : j = i
      · subst hij
        rw [hbj] at hx
        exact hx
      · have := decode_cont s i j (by omega) hj
        rw [show s.get! j = s[j]'hjs from get_at s j hjs, hbj] at this
        exact this
    cases hc : chars.contains b with
    | false => rfl
    | true =>
      have := hac b (by simpa using hc)
      omega
theorem c65s (s chars : ByteArray) (w : World) (h2 : chars.size = 2) (h8 : s.size ≤ 8) (hac : ∀ (j : Nat) b, chars.data.toList[j]? = some b → b.toNat < 128) :
    Calls Try.prog 65 #[.string s, .string chars] w fun e w' => (∃ n, e = .returned (.int .i64 n) ∧ decide (0 ≤ n) = s.data.toList.any fun b => chars.data.toList.contains b) ∧ Below w.heap.size w w' := by
  have HA : Aside (∀ (j : Nat) b, chars.data.toList[j]? = some b → b.toNat < 128) := hac
  have HM : Aside (∀ b ∈ chars.data.toList, b.toNat < 128) := fun b hb => by
    obtain ⟨j, hj, hjx⟩ := List.mem_iff_getElem.1 hb
    exact hac j b (by rw [List.getElem?_eq_getElem hj, hjx])
  clear hac
  have hemp : chars.toList.isEmpty = false := by
    rw [Lib.toList_data]
    cases h : chars.data.toList with
    | nil => have := Lib.size_eq chars; rw [h, List.length_nil] at this; omega
    | cons _ _ => rfl
  have hn1 : ((chars.size : Int) == 1) = false := beq_eq_false_iff_ne.2 (by omega)
  have h8z : decide ((8 : Int) < (s.size : Int)) = false := decide_eq_false (by omega)
  go_enter Try.func65, Try.ntmps65
  go_wp2_with (go_at_call 75; refine (c75 _ _).mono ?_; rintro e w' ⟨rfl, hw⟩; rw [hw, h8z])
  go_loopg [9, 10] s.size (fun g _ _ wx => ∃ i : Nat, s.size - i = g ∧ wx.heap[w.heap.size]? = some (.stringIter s i) ∧ Below w.heap.size w wx ∧ Lib.NoAny s.data.toList chars.data.toList i)
  case atStart => exact ⟨0, by omega, World.iter_heap _ _ _, (Below.refl _ _).alloc (Nat.le_refl _) _, Lib.NoAny.zero _ _⟩
  case round =>
    obtain ⟨i, hig, hit, hb, hno⟩ := hrel
    have HN : Aside (Lib.NoAny s.data.toList chars.data.toList i) := hno
    clear hno
    cases gk with
    | zero =>
      have hnx := fun ty => run_next_over wr _ s i ty hit (by omega)
      have hfin : (-1 : Int) < 0 := by omega
      go_wp2
      go_ret
      exact ⟨⟨_, rfl, by rw [any_of _ _ (fun j b hj hbj => HN.out j b (by rw [← Lib.size_eq] at hj; omega) hbj)]; rfl⟩, hb⟩
    | succ g =>
      have hi : i < s.size := by omega
      have hnx := fun ty => run_next_at wr _ s i ty hit hi
      obtain ⟨x, hx⟩ : ∃ x : UInt8, s[i]'hi = x := ⟨_, rfl⟩
      have hxl : s.data.toList[i]? = some x := by rw [← hx]; exact Lib.data_getElem? s i hi
      have Hx : Aside (s.data.toList[i]? = some x) := hxl
      have hsz : w.heap.size < wr.heap.size := by
        have := Array.getElem?_eq_some_iff.1 hit
        exact this.1
      by_cases hx128 : x.toNat < 128
      · rw [decode_ascii s i hi (by rw [hx]; exact hx128), hx] at hnx
        simp only at hnx
        obtain ⟨w2, hw2⟩ : ∃ w2, { wr with heap := wr.heap.setIfInBounds w.heap.size (.stringIter s (i + 1)) } = w2 := ⟨_, rfl⟩
        have hit2 : w2.heap[w.heap.size]? = some (.stringIter s (i + 1)) := by
          rw [← hw2]
          simp [Array.getElem?_setIfInBounds, hsz]
        have hb2 : Below w.heap.size w w2 := by rw [← hw2]; exact below_setAt hb (Nat.le_refl _) _
        rw [hw2] at hnx
        clear hw2 hxl hx hit hb hsz
        have hcon := Lib.contains_iff_indexByte chars.data.toList x
        have hback : ((x.toNat : Int)).toNat.toUInt8 = x := by simp
        cases hin : chars.data.toList.contains x
        · rw [hin] at hcon
          have hlt : ¬ ((0 : Int) ≤ Lib.indexByte chars.data.toList x) := of_decide_eq_false hcon.symm
          clear hcon
          go_wp2_with (go_at_call 74; refine (c74 _ _ _ (by omega) (by omega)).mono ?_; rintro e w' ⟨rfl, hw⟩; rw [hw, hback])
          go_roundg (s.size - (i + 1))
          case measure => omega
          case rel => exact ⟨i + 1, rfl, hit2, hb2, HN.out.succ Hx.out hin⟩
        · rw [hin] at hcon
          have hge : (0 : Int) ≤ Lib.indexByte chars.data.toList x := of_decide_eq_true hcon.symm
          clear hcon
          go_wp2_with (go_at_call 74; refine (c74 _ _ _ (by omega) (by omega)).mono ?_; rintro e w' ⟨rfl, hw⟩; rw [hw, hback])
          go_ret
          exact ⟨⟨_, rfl, by rw [any_hit _ _ i x Hx.out hin]; simp⟩, hb2⟩
      · obtain ⟨d1, d2⟩ := decode_high s i hi (by rw [hx]; omega)
        have d3 := decode_le s i
        have HN2 : Aside (Lib.NoAny s.data.toList chars.data.toList (i + (Utf8.decode s i).2)) := noAny_high s _ HM.out i HN.out hi (by rw [hx]; omega)
        obtain ⟨r, hr⟩ : ∃ r, (Utf8.decode s i).1 = r := ⟨_, rfl⟩
        obtain ⟨d, hd⟩ : ∃ d, (Utf8.decode s i).2 = d := ⟨_, rfl⟩
        rw [hr] at d1 d3
        rw [hd] at d2 HN2
        rw [hr, hd] at hnx
        obtain ⟨w2, hw2⟩ : ∃ w2, { wr with heap := wr.heap.setIfInBounds w.heap.size (.stringIter s (i + d)) } = w2 := ⟨_, rfl⟩
        have hit2 : w2.heap[w.heap.size]? = some (.stringIter s (i + d)) := by
          rw [← hw2]
          simp [Array.getElem?_setIfInBounds, hsz]
        have hsz2 : w.heap.size < w2.heap.size := by
          have := Array.getElem?_eq_some_iff.1 hit2
          exact this.1
        have hb2 : Below w.heap.size w w2 := by rw [← hw2]; exact below_setAt hb (Nat.le_refl _) _
        rw [hw2] at hnx
        clear hw2 hxl hx hit hb hsz hx128 hr hd
        go_wp2_with (go_at_call 74; refine (c74h _ _ _ (by omega) (by omega) h2 HA.out).mono ?_; rintro e w' ⟨rfl, hw⟩)
        go_roundg (s.size - (i + d))
        case measure => omega
        case rel => exact ⟨i + d, rfl, by rw [hw.block _ hsz2]; exact hit2, hb2.trans (hw.mono (by omega)), HN2.out⟩
theorem c65l (s chars : ByteArray) (w : World) (h2 : chars.size = 2) (h8 : 8 < s.size) (hs : s.size < 4294967281) (hascii : ∀ (j : Nat) b, chars.data.toList[j]? = some b → b.toNat < 128) :
    Calls Try.prog 65 #[.string s, .string chars] w fun e w' => (∃ n, e = .returned (.int .i64 n) ∧ decide (0 ≤ n) = s.data.toList.any fun b => chars.data.toList.contains b) ∧ Below w.heap.size w w' := by
  generalize ht : (s.data.toList.any fun b => chars.data.toList.contains b) = t
  have HT : Aside ((s.data.toList.any fun b => chars.data.toList.contains b) = t) := ht
  clear ht
  have hv100 := (zero_of_info hz100).1
  have hi100 := (zero_of_info hz100).2
  have hM := c76 chars w (by omega) hascii
  clear hascii
  have hemp : chars.toList.isEmpty = false := by
    rw [Lib.toList_data]
    cases h : chars.data.toList with
    | nil => have := Lib.size_eq chars; rw [h, List.length_nil] at this; omega
    | cons _ _ => rfl
  have hn1 : ((chars.size : Int) == 1) = false := beq_eq_false_iff_ne.2 (by omega)
  have h8z : decide ((8 : Int) < (s.size : Int)) = true := decide_eq_true (by omega)
  have hsc : (storeCells ⟨w.heap.size + 1, 0, none⟩ (Lib.setCells chars.data.toList).toList 0).run Try.prog ((w.alloc (.cells (Lib.setCells chars.data.toList) 100)).alloc (.cells (Array.replicate 256 (.bool false)) 100)) = .ok () ((w.alloc (.cells (Lib.setCells chars.data.toList) 100)).alloc (.cells (Lib.setCells chars.data.toList) 100)) := by
    have := run_storeCells_new (P := Try.prog) (w.alloc (.cells (Lib.setCells chars.data.toList) 100)) 100 (Array.replicate 256 (.bool false)) (Lib.setCells chars.data.toList) (by rw [Lib.setCells_size]; exact hi100) (by rw [Lib.setCells_size, Array.size_replicate]) (Lib.setCells_one _)
    simpa using this
  have hst : (Instr.storeAt 100 (.pointer (some ⟨w.heap.size + 1, 0, none⟩)) (.agg (Lib.setCells chars.data.toList))).run Try.prog ((w.alloc (.cells (Lib.setCells chars.data.toList) 100)).alloc (.cells (Array.replicate 256 (.bool false)) 100)) = .ok () ((w.alloc (.cells (Lib.setCells chars.data.toList) 100)).alloc (.cells (Lib.setCells chars.data.toList) 100)) := by
    have := run_storeAt_new (P := Try.prog) (w.alloc (.cells (Lib.setCells chars.data.toList) 100)) 100 (Array.replicate 256 (.bool false)) (Lib.setCells chars.data.toList) (by rw [Lib.setCells_size]; exact hi100) (by rw [Lib.setCells_size, Array.size_replicate]) (Lib.setCells_one _)
    simpa using this
  have hsz := Lib.setCells_size chars.data.toList
  have hcellAt : ∀ x : UInt8, ((w.alloc (.cells (Lib.setCells chars.data.toList) 100)).alloc (.cells (Lib.setCells chars.data.toList) 100)).cell? ⟨w.heap.size + 1, x.toNat, none⟩ = some (.bool (chars.data.toList.contains x)) := fun x => by
    rw [World.cell?_alloc_at _ _ _ _ (by simp), Lib.setCells_at]
  have HC : Aside (∀ x : UInt8, ((w.alloc (.cells (Lib.setCells chars.data.toList) 100)).alloc (.cells (Lib.setCells chars.data.toList) 100)).cell? ⟨w.heap.size + 1, x.toNat, none⟩ = some (.bool (chars.data.toList.contains x))) := hcellAt
  clear hcellAt
  have HB : Aside (Below w.heap.size w ((w.alloc (.cells (Lib.setCells chars.data.toList) 100)).alloc (.cells (Lib.setCells chars.data.toList) 100))) := ((Below.refl _ _).alloc (Nat.le_refl _) _).alloc (by simp) _
  go_enter Try.func65, Try.ntmps65
  go_wp2_with (first
    | (go_at_call 75; refine (c75 _ _).mono ?_; rintro e w' ⟨rfl, hw⟩; rw [hw, h8z])
    | (go_at_call 76; refine hM.mono ?_; rintro e w' ⟨rfl, hw⟩; rw [hw]))
  clear hM hsc hst
  go_loopg [8] s.size (fun g s8 wx => ∃ i : Nat, i + g = s.size ∧ s8 = .int .i64 i ∧ wx = ((w.alloc (.cells (Lib.setCells chars.data.toList) 100)).alloc (.cells (Lib.setCells chars.data.toList) 100)) ∧ Lib.NoAny s.data.toList chars.data.toList i)
  case atStart => exact ⟨0, by omega, rfl, rfl, Lib.NoAny.zero _ _⟩
  case round =>
    obtain ⟨i, hig, rfl, rfl, hno⟩ := hrel
    have HN : Aside (Lib.NoAny s.data.toList chars.data.toList i) := hno
    clear hno
    cases gk with
    | zero =>
      obtain rfl : i = s.size := by omega
      have hiz : ¬ ((s.size : Int) < (s.size : Int)) := by omega
      go_wp2
      go_ret
      exact ⟨⟨_, rfl, by rw [← HT.out, any_of _ _ (fun j b hj hbj => HN.out j b (by rw [← Lib.size_eq] at hj; omega) hbj)]; rfl⟩, HB.out⟩
    | succ g =>
      have hi : i < s.size := by omega
      have hiz : (i : Int) < (s.size : Int) := by omega
      obtain ⟨x, hx⟩ : ∃ x : UInt8, s[i]'hi = x := ⟨_, rfl⟩
      have hxl : s.data.toList[i]? = some x := by rw [← hx]; exact Lib.data_getElem? s i hi
      have Hx : Aside (s.data.toList[i]? = some x) := hxl
      clear hxl
      have hcx := HC.out x
      cases hin : chars.data.toList.contains x <;> rw [hin] at hcx
      · go_wp2_with (go_at_call 77; refine (c77 _ x _ _ hcx).mono ?_; rintro e w' ⟨rfl, hw⟩; rw [hw])
        go_roundg g
        case measure => omega
        case rel => exact ⟨i + 1, by omega, by first | rfl | simp, rfl, HN.out.succ Hx.out hin⟩
      · go_wp2_with (go_at_call 77; refine (c77 _ x _ _ hcx).mono ?_; rintro e w' ⟨rfl, hw⟩; rw [hw])
        go_ret
        exact ⟨⟨_, rfl, by rw [← HT.out, any_hit _ _ i x Hx.out hin]; simp⟩, HB.out⟩
theorem c65 (s chars : ByteArray) (w : World) (h2 : chars.size = 2) (hs : s.size < 4294967281) (hac : ∀ (j : Nat) b, chars.data.toList[j]? = some b → b.toNat < 128) :
    Calls Try.prog 65 #[.string s, .string chars] w fun e w' => (∃ n, e = .returned (.int .i64 n) ∧ decide (0 ≤ n) = s.data.toList.any fun b => chars.data.toList.contains b) ∧ Below w.heap.size w w' := by
  by_cases h8 : s.size ≤ 8
  · exact c65s s chars w h2 h8 hac
  · exact c65l s chars w h2 (by omega) hs hac
theorem c52 (s chars : ByteArray) (w : World) (h2 : chars.size = 2) (hs : s.size < 4294967281) (hac : ∀ (j : Nat) b, chars.data.toList[j]? = some b → b.toNat < 128) :
    Calls Try.prog 52 #[.string s, .string chars] w fun e w' => e = .returned (.bool (s.data.toList.any fun b => chars.data.toList.contains b)) ∧ Below w.heap.size w w' := by
  have c := c65 s chars w h2 hs hac
  generalize (s.data.toList.any fun b => chars.data.toList.contains b) = t at c ⊢
  go_enter Try.func52, Try.ntmps52
  go_wp2_with (go_at_call 65; refine c.mono ?_; rintro e w' ⟨⟨n, rfl, hn⟩, hw⟩)
  go_ret
  subst hn
  exact ⟨by first | rfl | simp, hw⟩
end Go.Proofs.Ytgphmleklcicaaa.LibC
